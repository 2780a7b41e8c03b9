import PyProof.Rows.All
import Wide.All
import OpenK.AllK
import Wide.FinOn
import PyProof.EqAt
import PyProof.EqKinds
import PyProof.TupleCall
import HandS.ForMost
import HandS.TupAny
import HandS.TupMul
import HandS.Wide
import HandS.TupLe
import HandS.Style
import HandS.SortInts
import HandS.Zip
import HandS.EndBits
import HandS.IsInst
import HandS.Codes
import HandS.OwnEq
import HandS.SetBool
import HandS.Strs
import HandS.Deep
import KE.DataMinMax
import HandS.MakeKwOnly
import PySem.Challenge.RW_handlerims_k06_least_turned_and_turns_th
set_option Elab.async false
set_option linter.all false
set_option maxRecDepth 100000
set_option maxHeartbeats 4000000
/-! a typed layer over the judgements: what is known of the values (frozen), what is owned (changed in place) -/
namespace TL
open PySem L2

/-- what is known of a value; it stays as the known part grows -/
structure Pd where
  p : V → Hp → Prop
  mono : ∀ v F F', Same F F' → p v F → p v F'
/-- what is known of an owned object, over the known part -/
structure Od where
  p : HO → Hp → Prop
  mono : ∀ o F F', Same F F' → p o F → p o F'
inductive Sl where
  | any
  | im (P : Pd)
  | ow (O : Od)
  | bo (j : Addr) (O : Od)

/-- the base: what is known, what stands, at the def's entry; what was lent to it -/
structure Bs where
  F : Hp
  H : Hp
  bor : Addr → Prop
  /-- what is walked around here: known all through -/
  pins : List (V × Pd)

def SlOk (B : Bs) (F H : Hp) : Sl → Option V → Prop
  | .any, _ => True
  | .im P, x => ∃ v, x = some v ∧ P.p v F
  | .ow O, x => ∃ p o, x = some (.ref p) ∧ F p = none ∧ H p = some o ∧ O.p o F ∧ B.H p = none
  | .bo j O, x => ∃ o, x = some (.ref j) ∧ F j = none ∧ H j = some o ∧ O.p o F ∧ B.bor j
def Fits (B : Bs) (F H : Hp) : List Sl → L2.St → Prop
  | [], [] => True
  | s :: Γ, x :: σ => SlOk B F H s x ∧ Fits B F H Γ σ
  | _, _ => False
/-- the owned addresses -/
def ownS : Sl → Option V → List Addr
  | .ow _, some (.ref p) => [p]
  | .bo _ _, some (.ref p) => [p]
  | _, _ => []
def owA : List Sl → L2.St → List Addr
  | s :: Γ, x :: σ => ownS s x ++ owA Γ σ
  | _, _ => []
structure At (B : Bs) (Γ : List Sl) (σ : L2.St) (F H : Hp) : Prop where
  sub : Same F H
  ext : Same B.F F
  kept : ∀ a o, B.H a = some o → ¬ B.bor a → H a = some o
  new : ∀ a o, F a = some o → B.F a = some o ∨ B.H a = none
  fit : Fits B F H Γ σ
  dis : (owA Γ σ).Nodup
  bob : ∀ a, B.bor a → F a = none ∧ (∃ o, H a = some o) ∧ ∃ o, B.H a = some o
  pin : ∀ q ∈ B.pins, q.2.p q.1 F
/-- what is known anew is new -/
def Nw (F H F' : Hp) : Prop := ∀ a o, F' a = some o → F a = some o ∨ H a = none

section
variable {B : Bs} {Γ Γ' : List Sl} {σ : L2.St} {F F' H H' : Hp}

theorem same_upd {H : Hp} {p : Addr} {o : HO} (h : H p = none) : Same H (upd H p o) := fun a u e => by
  rw [upd_ne (ne_of_none e h)]
  exact e
theorem Nw.refl : Nw F H F := fun _ _ h => .inl h
theorem Nw.no (n : Nw F H F') {a : Addr} (h1 : F a = none) {o : HO} (h2 : H a = some o) : F' a = none := by
  cases q : F' a with
  | none => rfl
  | some u =>
    rcases n a u q with z | z
    · rw [h1] at z; cases z
    · rw [h2] at z; cases z
theorem SlOk.grow {s : Sl} {x : Option V} (h : SlOk B F H s x) (e : Same F F') (eH : Same H H') (nw : Nw F H F') : SlOk B F' H' s x := by
  cases s with
  | any => trivial
  | im P => obtain ⟨v, h1, h2⟩ := h; exact ⟨v, h1, P.mono _ _ _ e h2⟩
  | ow O => obtain ⟨p, o, h1, h2, h3, h4, h5⟩ := h; exact ⟨p, o, h1, nw.no h2 h3, eH _ _ h3, O.mono _ _ _ e h4, h5⟩
  | bo j O => obtain ⟨o, h1, h2, h3, h4, h5⟩ := h; exact ⟨o, h1, nw.no h2 h3, eH _ _ h3, O.mono _ _ _ e h4, h5⟩
theorem Fits.grow : ∀ {Γ : List Sl} {σ : L2.St}, Fits B F H Γ σ → Same F F' → Same H H' → Nw F H F' → Fits B F' H' Γ σ
  | [], [], _, _, _, _ => trivial
  | _ :: _, _ :: _, h, e, eH, fr => ⟨h.1.grow e eH fr, Fits.grow h.2 e eH fr⟩
/-- both parts grow, by what is new -/
theorem At.grow (h : At B Γ σ F H) (e : Same F F') (eH : Same H H') (s : Same F' H') (nw : Nw F H F') : At B Γ σ F' H' := by
  refine ⟨s, h.ext.trans e, fun a o q n => eH _ _ (h.kept a o q n), fun a o q => ?_, h.fit.grow e eH nw, h.dis, fun a hb => ?_, fun q hq => q.2.mono _ _ _ e (h.pin q hq)⟩
  · rcases nw a o q with z | z
    · exact h.new a o z
    · right
      cases q2 : B.H a with
      | none => rfl
      | some u =>
        by_cases hb : B.bor a
        · obtain ⟨_, ⟨o2, h2⟩, _⟩ := h.bob a hb
          rw [z] at h2; cases h2
        · rw [h.kept a u q2 hb] at z; cases z
  · obtain ⟨h1, ⟨o, h2⟩, h3⟩ := h.bob a hb
    exact ⟨nw.no h1 h2, ⟨o, eH _ _ h2⟩, h3⟩
theorem At.len (h : At B Γ σ F H) : σ.length = Γ.length := by
  have go : ∀ (Γ : List Sl) (σ : L2.St), Fits B F H Γ σ → σ.length = Γ.length := by
    intro Γ
    induction Γ with
    | nil => intro σ h; cases σ with | nil => rfl | cons => exact h.elim
    | cons s Γ ih => intro σ h; cases σ with | nil => exact h.elim | cons x σ => simp [ih σ h.2]
  exact go Γ σ h.fit
theorem Fits.get : ∀ {Γ : List Sl} {σ : L2.St} {i : Nat} {s : Sl}, Fits B F H Γ σ → Γ[i]? = some s → ∃ x, σ[i]? = some x ∧ SlOk B F H s x
  | s :: Γ, x :: σ, 0, s', h, e => by simp at e; subst e; exact ⟨x, rfl, h.1⟩
  | s :: Γ, x :: σ, i + 1, s', h, e => by
    obtain ⟨y, h1, h2⟩ := Fits.get (i := i) h.2 (by simpa using e)
    exact ⟨y, by simpa using h1, h2⟩
  | [], _, i, s', h, e => by simp at e
  | s :: Γ, [], i, s', h, e => h.elim
theorem Fits.set : ∀ {Γ : List Sl} {σ : L2.St} {i : Nat} {s : Sl} {x : Option V}, Fits B F H Γ σ → SlOk B F H s x → Fits B F H (Γ.set i s) (σ.set i x)
  | [], [], _, _, _, h, _ => h
  | _ :: _, _ :: _, 0, _, _, h, k => ⟨k, h.2⟩
  | _ :: _, _ :: _, i + 1, _, _, h, k => ⟨h.1, Fits.set h.2 k⟩
  | [], _ :: _, _, _, _, h, _ => h.elim
  | _ :: _, [], _, _, _, h, _ => h.elim
theorem ownS_any {x : Option V} : ownS .any x = [] := rfl
theorem ownS_im {P : Pd} {x : Option V} : ownS (.im P) x = [] := rfl
theorem owA_set_sub : ∀ {Γ : List Sl} {σ : L2.St} {i : Nat} {s : Sl} {x : Option V}, ownS s x = [] → (owA (Γ.set i s) (σ.set i x)).Sublist (owA Γ σ)
  | [], σ, i, s, x, _ => by simp [owA]
  | s0 :: Γ, [], i, s, x, _ => by cases i <;> simp [owA]
  | s0 :: Γ, y :: σ, 0, s, x, h => by
    show (ownS s x ++ owA Γ σ).Sublist (ownS s0 y ++ owA Γ σ)
    rw [h]
    exact List.sublist_append_right _ _
  | s0 :: Γ, y :: σ, i + 1, s, x, h => by
    show (ownS s0 y ++ owA (Γ.set i s) (σ.set i x)).Sublist (ownS s0 y ++ owA Γ σ)
    exact List.Sublist.append (List.Sublist.refl _) (owA_set_sub h)
theorem mem_owA_set : ∀ {Γ : List Sl} {σ : L2.St} {i : Nat} {s : Sl} {x : Option V} {q : Addr}, q ∈ owA (Γ.set i s) (σ.set i x) → q ∈ ownS s x ∨ q ∈ owA Γ σ
  | [], σ, i, s, x, q, h => by simp [owA] at h
  | s0 :: Γ, [], i, s, x, q, h => by cases i <;> simp [owA] at h
  | s0 :: Γ, y :: σ, 0, s, x, q, h => by
    have h : q ∈ ownS s x ++ owA Γ σ := h
    rcases List.mem_append.mp h with h | h
    · exact .inl h
    · exact .inr (List.mem_append_right _ h)
  | s0 :: Γ, y :: σ, i + 1, s, x, q, h => by
    have h : q ∈ ownS s0 y ++ owA (Γ.set i s) (σ.set i x) := h
    rcases List.mem_append.mp h with h | h
    · exact .inr (List.mem_append_left _ h)
    · rcases mem_owA_set h with h | h
      · exact .inl h
      · exact .inr (List.mem_append_right _ h)
/-- an owned address stands in H, is not known, and is new or lent -/
theorem Fits.owned : ∀ {Γ : List Sl} {σ : L2.St} {q : Addr}, Fits B F H Γ σ → q ∈ owA Γ σ → F q = none ∧ (∃ o, H q = some o) ∧ (B.H q = none ∨ B.bor q)
  | [], _, q, _, h => by simp [owA] at h
  | _ :: _, [], q, _, h => by simp [owA] at h
  | s :: Γ, x :: σ, q, f, h => by
    have h : q ∈ ownS s x ++ owA Γ σ := h
    rcases List.mem_append.mp h with h | h
    · cases s with
      | any => simp [ownS] at h
      | im P => simp [ownS] at h
      | ow O =>
        obtain ⟨p, o, h1, h2, h3, h4, h5⟩ := f.1
        subst h1
        have e : q = p := by simpa [ownS] using h
        subst e
        exact ⟨h2, ⟨o, h3⟩, .inl h5⟩
      | bo j O =>
        obtain ⟨o, h1, h2, h3, h4, h5⟩ := f.1
        subst h1
        have e : q = j := by simpa [ownS] using h
        subst e
        exact ⟨h2, ⟨o, h3⟩, .inr h5⟩
    · exact Fits.owned f.2 h
theorem At.notOwn (h : At B Γ σ F H) {p : Addr} (hp : H p = none) : p ∉ owA Γ σ := fun hm => by
  obtain ⟨_, ⟨o, e⟩, _⟩ := h.fit.owned hm
  rw [hp] at e; cases e
theorem At.fresh (h : At B Γ σ F H) {p : Addr} (hp : H p = none) : F p = none ∧ B.H p = none := by
  refine ⟨?_, ?_⟩
  · cases q : F p with
    | none => rfl
    | some o => rw [h.sub _ _ q] at hp; cases hp
  · cases q : B.H p with
    | none => rfl
    | some o =>
      by_cases hb : B.bor p
      · obtain ⟨_, ⟨o, e⟩, _⟩ := h.bob p hb
        rw [hp] at e; cases e
      · rw [h.kept _ _ q hb] at hp; cases hp
/-- a new object, known from now on -/
theorem At.lay (h : At B Γ σ F H) {p : Addr} {o : HO} (hp : H p = none) : At B Γ σ (upd F p o) (upd H p o) ∧ Same F (upd F p o) := by
  have f := h.fresh hp
  refine ⟨h.grow (same_upd f.1) (same_upd hp) (fun a u e => ?_) (fun a u e => ?_), same_upd f.1⟩
  · by_cases ha : a = p
    · subst ha; rw [upd_same] at e ⊢; exact e
    · rw [upd_ne ha] at e ⊢; exact h.sub _ _ e
  · by_cases ha : a = p
    · subst ha; exact .inr hp
    · rw [upd_ne ha] at e; exact .inl e
/-- a new object, not known -/
theorem At.layH (h : At B Γ σ F H) {p : Addr} {o : HO} (hp : H p = none) : At B Γ σ F (upd H p o) :=
  h.grow (Same.refl F) (same_upd hp) (h.sub.trans (same_upd hp)) Nw.refl
theorem At.im (h : At B Γ σ F H) {i : Nat} {P : Pd} (e : Γ[i]? = some (.im P)) : ∃ v, σ[i]? = some (some v) ∧ P.p v F := by
  obtain ⟨x, h1, v, h2, h3⟩ := h.fit.get e
  exact ⟨v, h2 ▸ h1, h3⟩
theorem At.setIm (h : At B Γ σ F H) {i : Nat} {P : Pd} {v : V} (hv : P.p v F) : At B (Γ.set i (.im P)) (σ.set i (some v)) F H :=
  ⟨h.sub, h.ext, h.kept, h.new, h.fit.set ⟨v, rfl, hv⟩, h.dis.sublist (owA_set_sub rfl), h.bob, h.pin⟩
theorem At.setAny (h : At B Γ σ F H) {i : Nat} {x : Option V} : At B (Γ.set i .any) (σ.set i x) F H :=
  ⟨h.sub, h.ext, h.kept, h.new, h.fit.set trivial, h.dis.sublist (owA_set_sub rfl), h.bob, h.pin⟩
theorem nodup_set : ∀ {Γ : List Sl} {σ : L2.St} {i : Nat} {O : Od} {p : Addr}, (owA Γ σ).Nodup → p ∉ owA Γ σ → (owA (Γ.set i (.ow O)) (σ.set i (some (.ref p)))).Nodup
  | [], σ, i, O, p, h, n => by simp [owA]
  | s :: Γ, [], i, O, p, h, n => by cases i <;> simp [owA]
  | s :: Γ, x :: σ, 0, O, p, h, n => by
    show ([p] ++ owA Γ σ).Nodup
    have h : (ownS s x ++ owA Γ σ).Nodup := h
    have n : p ∉ ownS s x ++ owA Γ σ := n
    have h2 := (List.nodup_append.mp h).2.1
    exact List.nodup_cons.mpr ⟨fun z => n (List.mem_append_right _ z), h2⟩
  | s :: Γ, x :: σ, i + 1, O, p, h, n => by
    show (ownS s x ++ owA (Γ.set i (.ow O)) (σ.set i (some (.ref p)))).Nodup
    have h : (ownS s x ++ owA Γ σ).Nodup := h
    have n : p ∉ ownS s x ++ owA Γ σ := n
    obtain ⟨h1, h2, h3⟩ := List.nodup_append.mp h
    refine List.nodup_append.mpr ⟨h1, nodup_set h2 fun z => n (List.mem_append_right _ z), fun a ha b hb => ?_⟩
    rcases mem_owA_set hb with z | z
    · have e : b = p := by simpa [ownS] using z
      rintro rfl
      exact n (List.mem_append_left _ (e ▸ ha))
    · exact h3 a ha b z
theorem At.setOw (h : At B Γ σ F H) {i : Nat} {O : Od} {p : Addr} {o : HO} (f : F p = none) (hp : H p = some o) (b : B.H p = none) (n : p ∉ owA Γ σ) (ho : O.p o F) : At B (Γ.set i (.ow O)) (σ.set i (some (.ref p))) F H :=
  ⟨h.sub, h.ext, h.kept, h.new, h.fit.set ⟨p, o, rfl, f, hp, ho, b⟩, nodup_set h.dis n, h.bob, h.pin⟩

/-! ### an owned object is changed -/
theorem fits_upd {Γ : List Sl} {σ : L2.St} {p : Addr} {o : HO} (h : Fits B F H Γ σ) (n : p ∉ owA Γ σ) : Fits B F (upd H p o) Γ σ := by
  induction Γ generalizing σ with
  | nil => cases σ with | nil => trivial | cons => exact h.elim
  | cons s Γ ih =>
    cases σ with
    | nil => exact h.elim
    | cons x σ =>
      have n : p ∉ ownS s x ++ owA Γ σ := n
      refine ⟨?_, ih h.2 fun z => n (List.mem_append_right _ z)⟩
      have h1 := h.1
      cases s with
      | any => trivial
      | im P => exact h1
      | ow O =>
        obtain ⟨q, o', e1, e2, e3, e4, e5⟩ := h1
        subst e1
        have nq : q ≠ p := fun z => n (List.mem_append_left _ (by simp [ownS, z]))
        exact ⟨q, o', rfl, e2, (upd_ne nq).trans e3, e4, e5⟩
      | bo j O =>
        obtain ⟨o', e1, e2, e3, e4, e5⟩ := h1
        subst e1
        have nq : j ≠ p := fun z => n (List.mem_append_left _ (by simp [ownS, z]))
        exact ⟨o', rfl, e2, (upd_ne nq).trans e3, e4, e5⟩
theorem mem_owA_of : ∀ {Γ : List Sl} {σ : L2.St} {i : Nat} {O : Od} {p : Addr}, Γ[i]? = some (.ow O) → σ[i]? = some (some (.ref p)) → p ∈ owA Γ σ
  | [], _, _, _, _, e, _ => by simp at e
  | _ :: _, [], _, _, _, _, e => by simp at e
  | s :: Γ, x :: σ, 0, O, p, e, e2 => by
    simp at e e2
    subst e; subst e2
    exact List.mem_append_left _ (by simp [ownS])
  | s :: Γ, x :: σ, i + 1, O, p, e, e2 => List.mem_append_right _ (mem_owA_of (i := i) (by simpa using e) (by simpa using e2))
theorem fits_write : ∀ {Γ : List Sl} {σ : L2.St} {i : Nat} {O O' : Od} {p : Addr} {o : HO}, Fits B F H Γ σ → (owA Γ σ).Nodup → Γ[i]? = some (.ow O) → σ[i]? = some (some (.ref p)) → O'.p o F → Fits B F (upd H p o) (Γ.set i (.ow O')) σ
  | [], _, _, _, _, _, _, _, _, e, _, _ => by simp at e
  | s :: Γ, [], _, _, _, _, _, h, _, _, _, _ => h.elim
  | s :: Γ, x :: σ, 0, O, O', p, o, h, nd, e, e2, ho => by
    simp at e e2
    subst e; subst e2
    obtain ⟨q, o', z1, z2, z3, z4, z5⟩ := h.1
    cases z1
    have nd : ([p] ++ owA Γ σ).Nodup := nd
    exact ⟨⟨p, o, rfl, z2, upd_same, ho, z5⟩, fits_upd h.2 (List.nodup_cons.mp nd).1⟩
  | s :: Γ, x :: σ, i + 1, O, O', p, o, h, nd, e, e2, ho => by
    have nd : (ownS s x ++ owA Γ σ).Nodup := nd
    obtain ⟨n1, n2, n3⟩ := List.nodup_append.mp nd
    have e' : Γ[i]? = some (.ow O) := by simpa using e
    have e2' : σ[i]? = some (some (.ref p)) := by simpa using e2
    have hm : p ∈ owA Γ σ := mem_owA_of e' e2'
    refine ⟨?_, fits_write h.2 n2 e' e2' ho⟩
    have one : Fits B F H [s] [x] := ⟨h.1, trivial⟩
    have := fits_upd (o := o) one (p := p) (by
      show p ∉ ownS s x ++ []
      rw [List.append_nil]
      exact fun z => n3 p z p hm rfl)
    exact this.1
theorem owA_set_ow : ∀ {Γ : List Sl} {σ : L2.St} {i : Nat} {O O' : Od}, Γ[i]? = some (.ow O) → owA (Γ.set i (.ow O')) σ = owA Γ σ
  | [], _, _, _, _, e => by simp at e
  | s :: Γ, [], i, _, _, e => by cases i <;> rfl
  | s :: Γ, x :: σ, 0, O, O', e => by
    simp at e
    subst e
    show ownS _ x ++ owA Γ σ = ownS _ x ++ owA Γ σ
    cases x with
    | none => rfl
    | some v => cases v <;> rfl
  | s :: Γ, x :: σ, i + 1, O, O', e => by
    show ownS s x ++ owA (Γ.set i _) σ = ownS s x ++ owA Γ σ
    rw [owA_set_ow (by simpa using e)]
theorem At.ow (h : At B Γ σ F H) {i : Nat} {O : Od} (e : Γ[i]? = some (.ow O)) : ∃ p o, σ[i]? = some (some (.ref p)) ∧ F p = none ∧ H p = some o ∧ O.p o F ∧ B.H p = none := by
  obtain ⟨x, h1, p, o, h2, h3⟩ := h.fit.get e
  exact ⟨p, o, h2 ▸ h1, h3⟩
theorem At.write (h : At B Γ σ F H) {i : Nat} {O O' : Od} {p : Addr} {o : HO} (e : Γ[i]? = some (.ow O)) (e2 : σ[i]? = some (some (.ref p))) (ho : O'.p o F) : At B (Γ.set i (.ow O')) σ F (upd H p o) := by
  obtain ⟨q, o', z1, z2, z3, z4, z5⟩ := h.ow e
  rw [e2] at z1
  cases z1
  refine ⟨fun a u g => ?_, h.ext, fun a u g n => ?_, h.new, fits_write h.fit h.dis e e2 ho, by rw [owA_set_ow e]; exact h.dis, fun a hb => ?_, h.pin⟩
  · have na : a ≠ p := fun z => by rw [z, z2] at g; cases g
    rw [upd_ne na]; exact h.sub _ _ g
  · have na : a ≠ p := fun z => by rw [z, z5] at g; cases g
    rw [upd_ne na]; exact h.kept _ _ g n
  · obtain ⟨h1, ⟨u, h2⟩, h3⟩ := h.bob a hb
    by_cases na : a = p
    · subst na; exact ⟨h1, ⟨o, upd_same⟩, h3⟩
    · exact ⟨h1, ⟨u, (upd_ne na).trans h2⟩, h3⟩
/-! the same for what was lent -/
theorem fits_writeB : ∀ {Γ : List Sl} {σ : L2.St} {i : Nat} {O O' : Od} {j : Addr} {o : HO}, Fits B F H Γ σ → (owA Γ σ).Nodup → Γ[i]? = some (.bo j O) → O'.p o F → Fits B F (upd H j o) (Γ.set i (.bo j O')) σ ∧ j ∈ owA Γ σ
  | [], _, _, _, _, _, _, _, _, e, _ => by simp at e
  | s :: Γ, [], _, _, _, _, _, h, _, _, _ => h.elim
  | s :: Γ, x :: σ, 0, O, O', j, o, h, nd, e, ho => by
    simp at e
    subst e
    obtain ⟨o', z1, z2, z3, z4, z5⟩ := h.1
    subst z1
    have nd : ([j] ++ owA Γ σ).Nodup := nd
    exact ⟨⟨⟨o, rfl, z2, upd_same, ho, z5⟩, fits_upd h.2 (List.nodup_cons.mp nd).1⟩, List.mem_append_left _ (by simp [ownS])⟩
  | s :: Γ, x :: σ, i + 1, O, O', j, o, h, nd, e, ho => by
    have nd : (ownS s x ++ owA Γ σ).Nodup := nd
    obtain ⟨n1, n2, n3⟩ := List.nodup_append.mp nd
    obtain ⟨r1, r2⟩ := fits_writeB h.2 n2 (i := i) (by simpa using e) ho
    have one : Fits B F H [s] [x] := ⟨h.1, trivial⟩
    have := fits_upd (o := o) one (p := j) (by
      show j ∉ ownS s x ++ []
      rw [List.append_nil]
      exact fun z => n3 j z j r2 rfl)
    exact ⟨⟨this.1, r1⟩, List.mem_append_right _ r2⟩
theorem owA_set_bo : ∀ {Γ : List Sl} {σ : L2.St} {i : Nat} {O O' : Od} {j : Addr}, Γ[i]? = some (.bo j O) → owA (Γ.set i (.bo j O')) σ = owA Γ σ
  | [], _, _, _, _, _, e => by simp at e
  | s :: Γ, [], i, _, _, _, e => by cases i <;> rfl
  | s :: Γ, x :: σ, 0, O, O', j, e => by
    simp at e
    subst e
    show ownS _ x ++ owA Γ σ = ownS _ x ++ owA Γ σ
    cases x with
    | none => rfl
    | some v => cases v <;> rfl
  | s :: Γ, x :: σ, i + 1, O, O', j, e => by
    show ownS s x ++ owA (Γ.set i _) σ = ownS s x ++ owA Γ σ
    rw [owA_set_bo (by simpa using e)]
theorem At.bo (h : At B Γ σ F H) {i : Nat} {j : Addr} {O : Od} (e : Γ[i]? = some (.bo j O)) : ∃ o, σ[i]? = some (some (.ref j)) ∧ F j = none ∧ H j = some o ∧ O.p o F ∧ B.bor j := by
  obtain ⟨x, h1, o, h2, h3⟩ := h.fit.get e
  exact ⟨o, h2 ▸ h1, h3⟩
theorem At.writeB (h : At B Γ σ F H) {i : Nat} {j : Addr} {O O' : Od} {o : HO} (e : Γ[i]? = some (.bo j O)) (ho : O'.p o F) : At B (Γ.set i (.bo j O')) σ F (upd H j o) := by
  obtain ⟨o', z1, z2, z3, z4, z5⟩ := h.bo e
  refine ⟨fun a u g => ?_, h.ext, fun a u g n => ?_, h.new, (fits_writeB h.fit h.dis e ho).1, by rw [owA_set_bo e]; exact h.dis, fun a hb => ?_, h.pin⟩
  · have na : a ≠ j := fun z => by rw [z, z2] at g; cases g
    rw [upd_ne na]; exact h.sub _ _ g
  · have na : a ≠ j := fun z => n (z ▸ z5)
    rw [upd_ne na]; exact h.kept _ _ g n
  · obtain ⟨h1, ⟨u, h2⟩, h3⟩ := h.bob a hb
    by_cases na : a = j
    · subst na; exact ⟨h1, ⟨o, upd_same⟩, h3⟩
    · exact ⟨h1, ⟨u, (upd_ne na).trans h2⟩, h3⟩
/-- slots forgotten -/
inductive Le : List Sl → List Sl → Prop
  | nil : Le [] []
  | same {s Γ Γ'} : Le Γ Γ' → Le (s :: Γ) (s :: Γ')
  | drop {s Γ Γ'} : Le Γ Γ' → Le (s :: Γ) (.any :: Γ')
theorem Le.rfl' : ∀ {Γ : List Sl}, Le Γ Γ
  | [] => .nil
  | _ :: _ => .same Le.rfl'
theorem Le.fits : ∀ {Γ Γ' : List Sl} {σ : L2.St}, Le Γ Γ' → Fits B F H Γ σ → Fits B F H Γ' σ ∧ (owA Γ' σ).Sublist (owA Γ σ)
  | _, _, [], .nil, h => ⟨h, .slnil⟩
  | _, _, x :: σ, .same l, h => by
    obtain ⟨h1, h2⟩ := Le.fits l h.2
    exact ⟨⟨h.1, h1⟩, List.Sublist.append (List.Sublist.refl _) h2⟩
  | _, _, x :: σ, .drop l, h => by
    obtain ⟨h1, h2⟩ := Le.fits l h.2
    exact ⟨⟨trivial, h1⟩, by
      show ([] ++ owA _ σ).Sublist _
      exact List.Sublist.append (List.nil_sublist _) h2⟩
theorem At.le (h : At B Γ σ F H) (l : Le Γ Γ') : At B Γ' σ F H := by
  obtain ⟨h1, h2⟩ := l.fits h.fit
  exact ⟨h.sub, h.ext, h.kept, h.new, h1, h.dis.sublist h2, h.bob, h.pin⟩
/-- an address that nobody owns, standing in H, is known from now on -/
theorem fits_know {Γ : List Sl} {σ : L2.St} {p : Addr} {o : HO} (sF : Same F (upd F p o)) (h : Fits B F H Γ σ) (n : p ∉ owA Γ σ) : Fits B (upd F p o) H Γ σ := by
  induction Γ generalizing σ with
  | nil => cases σ with | nil => trivial | cons => exact h.elim
  | cons sl Γ ih =>
    cases σ with
    | nil => exact h.elim
    | cons x σ =>
      have n : p ∉ ownS sl x ++ owA Γ σ := n
      refine ⟨?_, ih h.2 fun z => n (List.mem_append_right _ z)⟩
      have h1 := h.1
      cases sl with
      | any => trivial
      | im P => obtain ⟨v, z1, z2⟩ := h1; exact ⟨v, z1, P.mono _ _ _ sF z2⟩
      | ow O =>
        obtain ⟨q, o', e1, e2, e3, e4, e5⟩ := h1
        subst e1
        have nq : q ≠ p := fun z => n (List.mem_append_left _ (by simp [ownS, z]))
        exact ⟨q, o', rfl, (upd_ne nq).trans e2, e3, O.mono _ _ _ sF e4, e5⟩
      | bo j O =>
        obtain ⟨o', e1, e2, e3, e4, e5⟩ := h1
        subst e1
        have nq : j ≠ p := fun z => n (List.mem_append_left _ (by simp [ownS, z]))
        exact ⟨o', rfl, (upd_ne nq).trans e2, e3, O.mono _ _ _ sF e4, e5⟩
theorem At.know (A : At B Γ σ F H) {p : Addr} {o : HO} (fp : F p = none) (hp : H p = some o) (bp : B.H p = none) (n : p ∉ owA Γ σ) : At B Γ σ (upd F p o) H ∧ Same F (upd F p o) := by
  have sF : Same F (upd F p o) := same_upd fp
  refine ⟨⟨fun a u g => ?_, A.ext.trans sF, A.kept, fun a u g => ?_, fits_know sF A.fit n, A.dis, fun a hb => ?_, fun q hq => q.2.mono _ _ _ sF (A.pin q hq)⟩, sF⟩
  · by_cases ha : a = p
    · subst ha; rw [upd_same] at g; cases g; exact hp
    · rw [upd_ne ha] at g; exact A.sub _ _ g
  · by_cases ha : a = p
    · subst ha; exact .inr bp
    · rw [upd_ne ha] at g; exact A.new _ _ g
  · obtain ⟨h1, h2, o3, h3⟩ := A.bob a hb
    have na : a ≠ p := fun z => by rw [z, bp] at h3; cases h3
    exact ⟨(upd_ne na).trans h1, h2, o3, h3⟩
theorem owA_any_sub : ∀ {Γ : List Sl} {σ : L2.St} {i : Nat}, (owA (Γ.set i .any) σ).Sublist (owA Γ σ)
  | [], σ, i => by simp [owA]
  | s0 :: Γ, [], i => by cases i <;> simp [owA]
  | s0 :: Γ, y :: σ, 0 => List.sublist_append_right _ _
  | s0 :: Γ, y :: σ, i + 1 => List.Sublist.append (List.Sublist.refl _) owA_any_sub
theorem Fits.forget : ∀ {Γ : List Sl} {σ : L2.St} {i : Nat}, Fits B F H Γ σ → Fits B F H (Γ.set i .any) σ
  | [], [], _, h => h
  | _ :: _, _ :: _, 0, h => ⟨trivial, h.2⟩
  | _ :: _, _ :: _, i + 1, h => ⟨h.1, Fits.forget h.2⟩
  | [], _ :: _, _, h => h.elim
  | _ :: _, [], _, h => h.elim
theorem At.forget (h : At B Γ σ F H) {i : Nat} : At B (Γ.set i .any) σ F H := ⟨h.sub, h.ext, h.kept, h.new, h.fit.forget, h.dis.sublist owA_any_sub, h.bob, h.pin⟩
theorem Fits.reset : ∀ {Γ : List Sl} {σ : L2.St} {i : Nat} {s : Sl} {x : Option V}, Fits B F H Γ σ → σ[i]? = some x → SlOk B F H s x → Fits B F H (Γ.set i s) σ
  | [], [], _, _, _, h, _, _ => h
  | _ :: _, _ :: _, 0, _, _, h, e, k => by simp at e; subst e; exact ⟨k, h.2⟩
  | _ :: _, _ :: _, i + 1, _, _, h, e, k => ⟨h.1, Fits.reset h.2 (by simpa using e) k⟩
  | [], _ :: _, _, _, _, h, _, _ => h.elim
  | _ :: _, [], _, _, _, h, _, _ => h.elim
theorem owA_reset_sub : ∀ {Γ : List Sl} {σ : L2.St} {i : Nat} {P : Pd}, (owA (Γ.set i (.im P)) σ).Sublist (owA Γ σ)
  | [], σ, i, _ => by simp [owA]
  | s0 :: Γ, [], i, _ => by cases i <;> simp [owA]
  | s0 :: Γ, y :: σ, 0, _ => List.sublist_append_right _ _
  | s0 :: Γ, y :: σ, i + 1, _ => List.Sublist.append (List.Sublist.refl _) owA_reset_sub
/-- the owned object in a slot is known from now on -/
theorem At.freeze (A : At B Γ σ F H) {i : Nat} {O : Od} {P : Pd} (e : Γ[i]? = some (.ow O)) (hP : ∀ p o F', O.p o F' → F' p = some o → P.p (.ref p) F') : ∃ F', At B (Γ.set i (.im P)) σ F' H ∧ Same F F' := by
  obtain ⟨p, o, h1, h2, h3, h4, h5⟩ := A.ow e
  have np : p ∉ owA (Γ.set i .any) σ := by
    have go : ∀ {Γ : List Sl} {σ : L2.St} {i : Nat}, (owA Γ σ).Nodup → Γ[i]? = some (.ow O) → σ[i]? = some (some (.ref p)) → p ∉ owA (Γ.set i .any) σ := by
      intro Γ
      induction Γ with
      | nil => intro σ i _ e; simp at e
      | cons s Γ ih =>
        intro σ i nd e e2
        cases σ with
        | nil => simp at e2
        | cons x σ =>
          have nd : (ownS s x ++ owA Γ σ).Nodup := nd
          obtain ⟨n1, n2, n3⟩ := List.nodup_append.mp nd
          cases i with
          | zero =>
            simp at e e2
            subst e; subst e2
            intro z
            have z : p ∈ owA Γ σ := z
            exact n3 p (by simp [ownS]) p z rfl
          | succ i =>
            intro z
            have z : p ∈ ownS s x ++ owA (Γ.set i .any) σ := z
            have e' : Γ[i]? = some (.ow O) := by simpa using e
            have e2' : σ[i]? = some (some (.ref p)) := by simpa using e2
            rcases List.mem_append.mp z with z | z
            · exact n3 p z p (mem_owA_of e' e2') rfl
            · exact ih n2 e' e2' z
    exact go A.dis e h1
  obtain ⟨A2, sF⟩ := (A.forget (i := i)).know (o := o) h2 h3 h5 np
  refine ⟨upd F p o, ?_, sF⟩
  have f2 := A2.fit.reset (i := i) (s := .im P) h1 ⟨.ref p, rfl, hP p o _ (O.mono _ _ _ sF h4) upd_same⟩
  rw [List.set_set] at f2
  exact ⟨A2.sub, A2.ext, A2.kept, A2.new, f2, A.dis.sublist owA_reset_sub, A2.bob, A2.pin⟩
theorem Fits.base {B B' : Bs} (e1 : B'.H = B.H) (e2 : B'.bor = B.bor) : ∀ {Γ : List Sl} {σ : L2.St}, Fits B F H Γ σ → Fits B' F H Γ σ
  | [], [], _ => trivial
  | s :: Γ, x :: σ, h => by
    refine ⟨?_, Fits.base e1 e2 h.2⟩
    have h1 := h.1
    cases s with
    | any => trivial
    | im P => exact h1
    | ow O => obtain ⟨p, o, z1, z2, z3, z4, z5⟩ := h1; exact ⟨p, o, z1, z2, z3, z4, by rw [e1]; exact z5⟩
    | bo j O => obtain ⟨o, z1, z2, z3, z4, z5⟩ := h1; exact ⟨o, z1, z2, z3, z4, by rw [e2]; exact z5⟩
  | [], _ :: _, h => h.elim
  | _ :: _, [], h => h.elim
theorem At.pinned (h : At B Γ σ F H) {v : V} {P : Pd} (hv : P.p v F) : At { B with pins := (v, P) :: B.pins } Γ σ F H :=
  ⟨h.sub, h.ext, h.kept, h.new, Fits.base (by rfl) (by rfl) h.fit, h.dis, h.bob, fun q hq => by
    rcases List.mem_cons.mp hq with z | z
    · subst z; exact hv
    · exact h.pin q z⟩
theorem At.unpinned {v : V} {P : Pd} (h : At { B with pins := (v, P) :: B.pins } Γ σ F H) : At B Γ σ F H ∧ P.p v F :=
  ⟨⟨h.sub, h.ext, h.kept, h.new, Fits.base (by rfl) (by rfl) h.fit, h.dis, h.bob, fun q hq => h.pin q (List.mem_cons_of_mem _ hq)⟩, h.pin (v, P) List.mem_cons_self⟩
end
end TL
namespace TL
open PySem L2

/-! ### typed values -/
def RInt (x : Int) : Pd := ⟨fun v _ => v = .int x, fun _ _ _ _ h => h⟩
def RBool (x : Bool) : Pd := ⟨fun v _ => v = .bl x, fun _ _ _ _ h => h⟩
def RStr (x : Str) : Pd := ⟨fun v _ => v = .str x, fun _ _ _ _ h => h⟩
def RNon (_ : Unit) : Pd := ⟨fun v _ => v = .non, fun _ _ _ _ h => h⟩
def ROpt {α : Type} (R : α → Pd) (x : Option α) : Pd := ⟨fun v F => match x with | none => v = .non | some y => v ≠ .non ∧ (R y).p v F, fun v F F' e h => by
  cases x with
  | none => exact h
  | some y => exact ⟨h.1, (R y).mono _ _ _ e h.2⟩⟩
def AllR {α : Type} (R : α → Pd) : List α → List V → Hp → Prop
  | [], [], _ => True
  | x :: xs, v :: vs, F => (R x).p v F ∧ AllR R xs vs F
  | _, _, _ => False
section
variable {α β : Type} {R : α → Pd} {F F' : Hp}
theorem AllR.mono (e : Same F F') : ∀ {xs : List α} {vs : List V}, AllR R xs vs F → AllR R xs vs F'
  | [], [], _ => trivial
  | _ :: _, _ :: _, h => ⟨(R _).mono _ _ _ e h.1, AllR.mono e h.2⟩
theorem AllR.len : ∀ {xs : List α} {vs : List V}, AllR R xs vs F → vs.length = xs.length
  | [], [], _ => rfl
  | _ :: _, _ :: _, h => by simp [AllR.len h.2]
theorem AllR.get : ∀ {xs : List α} {vs : List V} {i : Nat} {x : α}, AllR R xs vs F → xs[i]? = some x → ∃ v, vs[i]? = some v ∧ (R x).p v F
  | x :: xs, v :: vs, 0, y, h, e => by simp at e; subst e; exact ⟨v, rfl, h.1⟩
  | x :: xs, v :: vs, i + 1, y, h, e => by
    obtain ⟨w, h1, h2⟩ := AllR.get (i := i) h.2 (by simpa using e)
    exact ⟨w, by simpa using h1, h2⟩
  | [], _, i, y, h, e => by simp at e
theorem AllR.append : ∀ {xs ys : List α} {vs ws : List V}, AllR R xs vs F → AllR R ys ws F → AllR R (xs ++ ys) (vs ++ ws) F
  | [], _, [], _, _, h => h
  | _ :: _, _, _ :: _, _, h, k => ⟨h.1, AllR.append h.2 k⟩
theorem AllR.drop : ∀ {xs : List α} {vs : List V} (n : Nat), AllR R xs vs F → AllR R (xs.drop n) (vs.drop n) F
  | [], [], n, _ => by simp [AllR]
  | _ :: _, _ :: _, 0, h => h
  | _ :: _, _ :: _, n + 1, h => AllR.drop n h.2
theorem AllR.take : ∀ {xs : List α} {vs : List V} (n : Nat), AllR R xs vs F → AllR R (xs.take n) (vs.take n) F
  | [], [], n, _ => by simp [AllR]
  | _ :: _, _ :: _, 0, h => trivial
  | _ :: _, _ :: _, n + 1, h => ⟨h.1, AllR.take n h.2⟩
theorem AllR.reverse : ∀ {xs : List α} {vs : List V}, AllR R xs vs F → AllR R xs.reverse vs.reverse F
  | [], [], _ => trivial
  | x :: xs, v :: vs, h => by
    rw [List.reverse_cons, List.reverse_cons]
    exact AllR.append (AllR.reverse h.2) ⟨h.1, trivial⟩
theorem AllR.set : ∀ {xs : List α} {vs : List V} {x : α} {v : V} (i : Nat), AllR R xs vs F → (R x).p v F → AllR R (xs.set i x) (vs.set i v) F
  | [], [], _, _, _, _, _ => trivial
  | _ :: _, _ :: _, _, _, 0, h, k => ⟨k, h.2⟩
  | _ :: _, _ :: _, _, _, i + 1, h, k => ⟨h.1, AllR.set i h.2 k⟩
theorem AllR.dropLast {xs : List α} {vs : List V} (h : AllR R xs vs F) : AllR R xs.dropLast vs.dropLast F := by
  rw [List.dropLast_eq_take, List.dropLast_eq_take, h.len]
  exact h.take _
theorem AllR.erase : ∀ {xs : List α} {vs : List V} (i : Nat), AllR R xs vs F → AllR R (xs.eraseIdx i) (vs.eraseIdx i) F
  | [], [], _, _ => trivial
  | _ :: _, _ :: _, 0, h => h.2
  | _ :: _, _ :: _, i + 1, h => ⟨h.1, AllR.erase i h.2⟩
theorem AllR.rep {xs : List α} {vs : List V} (h : AllR R xs vs F) : ∀ n : Nat, AllR R (List.replicate n xs).flatten (List.replicate n vs).flatten F
  | 0 => trivial
  | n + 1 => by
    rw [List.replicate_succ, List.replicate_succ, List.flatten_cons, List.flatten_cons]
    exact h.append (AllR.rep h n)
theorem AllR.ints {xs : List Int} : ∀ {vs : List V}, AllR RInt xs vs F ↔ vs = xs.map V.int := by
  induction xs with
  | nil => intro vs; cases vs with | nil => exact ⟨fun _ => rfl, fun _ => trivial⟩ | cons v vs => exact ⟨fun h => h.elim, fun h => by cases h⟩
  | cons x xs ih =>
    intro vs
    cases vs with
    | nil => exact ⟨fun h => h.elim, fun h => by cases h⟩
    | cons v vs =>
      refine ⟨fun h => ?_, fun h => ?_⟩
      · have h1 : v = .int x := h.1
        rw [h1, ih.mp h.2]; rfl
      · rw [List.map_cons] at h
        obtain ⟨h1, h2⟩ := List.cons.inj h
        exact ⟨h1, ih.mpr h2⟩
theorem AllR.bools {xs : List Bool} : ∀ {vs : List V}, AllR RBool xs vs F ↔ vs = xs.map V.bl := by
  induction xs with
  | nil => intro vs; cases vs with | nil => exact ⟨fun _ => rfl, fun _ => trivial⟩ | cons v vs => exact ⟨fun h => h.elim, fun h => by cases h⟩
  | cons x xs ih =>
    intro vs
    cases vs with
    | nil => exact ⟨fun h => h.elim, fun h => by cases h⟩
    | cons v vs =>
      refine ⟨fun h => ?_, fun h => ?_⟩
      · have h1 : v = .bl x := h.1
        rw [h1, ih.mp h.2]; rfl
      · rw [List.map_cons] at h
        obtain ⟨h1, h2⟩ := List.cons.inj h
        exact ⟨h1, ih.mpr h2⟩
theorem AllR.strs {xs : List Str} : ∀ {vs : List V}, AllR RStr xs vs F ↔ vs = xs.map V.str := by
  induction xs with
  | nil => intro vs; cases vs with | nil => exact ⟨fun _ => rfl, fun _ => trivial⟩ | cons v vs => exact ⟨fun h => h.elim, fun h => by cases h⟩
  | cons x xs ih =>
    intro vs
    cases vs with
    | nil => exact ⟨fun h => h.elim, fun h => by cases h⟩
    | cons v vs =>
      refine ⟨fun h => ?_, fun h => ?_⟩
      · have h1 : v = .str x := h.1
        rw [h1, ih.mp h.2]; rfl
      · rw [List.map_cons] at h
        obtain ⟨h1, h2⟩ := List.cons.inj h
        exact ⟨h1, ih.mpr h2⟩
end
theorem seqL_mono {K : PySem.W.Frag} {F F' : Hp} {a : Addr} {xs : List V} (e : Same F F') (h : SqL K F a xs) : SqL K F' a xs := e.seq h
theorem seqT_mono {K : PySem.W.Frag} {F F' : Hp} {a : Addr} {xs : List V} (e : Same F F') (h : SqT K F a xs) : SqT K F' a xs := by
  rcases h with (h | ⟨o, h⟩) | h
  · exact .inl (.inl (e _ _ h))
  · exact .inl (.inr ⟨o, e _ _ h⟩)
  · exact .inr h
/-- a list that is not changed any more; a tuple -/
def RList (K : PySem.W.Frag) {α : Type} (R : α → Pd) (xs : List α) : Pd := ⟨fun v F => ∃ a vs, v = .ref a ∧ SqL K F a vs ∧ AllR R xs vs F, fun _ _ _ e ⟨a, vs, h1, h2, h3⟩ => ⟨a, vs, h1, seqL_mono e h2, h3.mono e⟩⟩
/-- .. that stands in the heap itself (not the script) -/
def RLst {α : Type} (R : α → Pd) (xs : List α) : Pd := ⟨fun v F => ∃ a vs, v = .ref a ∧ F a = some (.lst vs) ∧ AllR R xs vs F, fun _ _ _ e ⟨a, vs, h1, h2, h3⟩ => ⟨a, vs, h1, e _ _ h2, h3.mono e⟩⟩
def RTup (K : PySem.W.Frag) {α : Type} (R : α → Pd) (xs : List α) : Pd := ⟨fun v F => ∃ a vs, v = .ref a ∧ SqT K F a vs ∧ AllR R xs vs F, fun _ _ _ e ⟨a, vs, h1, h2, h3⟩ => ⟨a, vs, h1, seqT_mono e h2, h3.mono e⟩⟩
def RPair (K : PySem.W.Frag) {α β : Type} (R : α → Pd) (R' : β → Pd) (x : α × β) : Pd :=
  ⟨fun v F => ∃ a v1 v2, v = .ref a ∧ SqT K F a [v1, v2] ∧ (R x.1).p v1 F ∧ (R' x.2).p v2 F, fun _ _ _ e ⟨a, v1, v2, h1, h2, h3, h4⟩ => ⟨a, v1, v2, h1, seqT_mono e h2, (R _).mono _ _ _ e h3, (R' _).mono _ _ _ e h4⟩⟩
def OList {α : Type} (R : α → Pd) (xs : List α) : Od := ⟨fun o F => ∃ vs, o = .lst vs ∧ AllR R xs vs F, fun _ _ _ e ⟨vs, h1, h2⟩ => ⟨vs, h1, h2.mono e⟩⟩
def AllP : List Pd → List V → Hp → Prop
  | [], [], _ => True
  | P :: Ps, v :: vs, F => P.p v F ∧ AllP Ps vs F
  | _, _, _ => False
theorem AllP.mono {F F' : Hp} (e : Same F F') : ∀ {Ps : List Pd} {vs : List V}, AllP Ps vs F → AllP Ps vs F'
  | [], [], _ => trivial
  | _ :: _, _ :: _, h => ⟨(‹Pd›).mono _ _ _ e h.1, AllP.mono e h.2⟩
theorem AllP.len {F : Hp} : ∀ {Ps : List Pd} {vs : List V}, AllP Ps vs F → vs.length = Ps.length
  | [], [], _ => rfl
  | _ :: _, _ :: _, h => by simp [AllP.len h.2]

/-! ### judgements -/
def tE {S α : Type} (B : Bs) (Γ : S → List Sl) (R : α → Pd) (m : S → (α → S → Prop) → Prop) : TE := fun σ H Q =>
  ∃ s F K, At B (Γ s) σ F H ∧ m s K ∧ ∀ x s' v F' H', K x s' → At B (Γ s') σ F' H' → Same F F' → (R x).p v F' → Q v H'
/-- a new list, owned by nobody yet -/
def tN {S α : Type} (B : Bs) (Γ : S → List Sl) (R : α → Pd) (m : S → (List α → S → Prop) → Prop) : TE := fun σ H Q =>
  ∃ s F K, At B (Γ s) σ F H ∧ m s K ∧ ∀ xs s' p vs F' H', K xs s' → At B (Γ s') σ F' H' → Same F F' → H' p = some (.lst vs) → F' p = none → B.H p = none → p ∉ owA (Γ s') σ → AllR R xs vs F' → Q (.ref p) H'
def tT {S : Type} (B : Bs) (Γ : S → List Sl) (m : S → (Bool → S → Prop) → Prop) : TT := fun σ H Q =>
  ∃ s F K, At B (Γ s) σ F H ∧ m s K ∧ ∀ b s' F' H', K b s' → At B (Γ s') σ F' H' → Same F F' → Q b H'
def tA {S ι : Type} (B : Bs) (Γ : S → List Sl) (As : ι → List Pd) (m : S → (ι → S → Prop) → Prop) : TA := fun σ H Q =>
  ∃ s F K, At B (Γ s) σ F H ∧ m s K ∧ ∀ x s' vs F' H', K x s' → At B (Γ s') σ F' H' → Same F F' → AllP (As x) vs F' → Q vs H'
def tO {S : Type} (B : Bs) (Γ : S → List Sl) (m : S → (Option Int → S → Prop) → Prop) : L2.TO := fun σ H Q =>
  ∃ s F K, At B (Γ s) σ F H ∧ m s K ∧ ∀ o s' F' H', K o s' → At B (Γ s') σ F' H' → Same F F' → Q o H'
def acons {α ι : Type} (R : α → Pd) (As : ι → List Pd) (x : α × ι) : List Pd := R x.1 :: As x.2
def anil (_ : Unit) : List Pd := []

theorem pe_imp {X : Cx} {e : Expr} {t t' : TE} (h : PE X e t) (i : ∀ σ H Q, t' σ H Q → t σ H Q) : PE X e t' := ⟨fun pins s σ H Q I q => h.run pins s σ H Q I (i _ _ _ q)⟩
theorem pt_imp {X : Cx} {e : Expr} {t t' : TT} (h : PT X e t) (i : ∀ σ H Q, t' σ H Q → t σ H Q) : PT X e t' := ⟨fun pins s σ H Q I q => h.run pins s σ H Q I (i _ _ _ q)⟩
theorem pw_imp {X : Cx} {e : Expr} {t t' : TT} (h : PW X e t) (i : ∀ σ H Q, t' σ H Q → t σ H Q) : PW X e t' := ⟨fun wh pins s σ H Q I q => h.run wh pins s σ H Q I (i _ _ _ q)⟩
theorem pa_imp {X : Cx} {es : List Expr} {t t' : TA} (h : PA X es t) (i : ∀ σ H Q, t' σ H Q → t σ H Q) : PA X es t' := ⟨fun pos pins s σ H Q I q => h.run pos pins s σ H Q I (i _ _ _ q)⟩
theorem po_imp {X : Cx} {e : Option Expr} {t t' : L2.TO} (h : PO X e t) (i : ∀ σ H Q, t' σ H Q → t σ H Q) : PO X e t' := ⟨fun pins s σ H Q I q => h.run pins s σ H Q I (i _ _ _ q)⟩
theorem ps_imp {X : Cx} {e : Stmt} {t t' : TS} (h : PS X e t) (i : ∀ D σ H, t' D σ H → t D σ H) : PS X e t' := ⟨fun pins s σ H D I q => h.run pins s σ H D I (i _ _ _ q)⟩
theorem pss_imp {X : Cx} {e : List Stmt} {t t' : TS} (h : PSs X e t) (i : ∀ D σ H, t' D σ H → t D σ H) : PSs X e t' := ⟨fun pins s σ H D I q => h.run pins s σ H D I (i _ _ _ q)⟩
theorem pi_imp {X : Cx} {tg e : Expr} {t t' : TI} (h : PI X tg e t) (i : ∀ σ H Q, t' σ H Q → t σ H Q) : PI X tg e t' := ⟨fun pins s σ H Q I q => h.run pins s σ H Q I (i _ _ _ q)⟩


section
variable {X : Cx} {S : Type} {B : Bs} {Γ : S → List Sl} {K : PySem.W.Frag} {α β γ ι : Type} {R Ra : α → Pd} {Rb : β → Pd} {Rc : γ → Pd} {e a b c : Expr} {pos : Pos}
variable {m ma : S → (α → S → Prop) → Prop} {mb : S → (β → S → Prop) → Prop}

/-- a new list, known from now on -/
theorem te_lst {m : S → (List α → S → Prop) → Prop} (h : PE X e (tN B Γ R m)) : PE X e (tE B Γ (RLst R) m) :=
  pe_imp h fun σ H Q ⟨s, F, K', A, hm, k⟩ => ⟨s, F, K', A, hm, fun xs s' p vs F' H' kx A' e' hp fp bp np av => by
    obtain ⟨A2, sF⟩ := A'.know fp hp bp np
    exact k xs s' (.ref p) (upd F' p (.lst vs)) H' kx A2 (e'.trans sF) ⟨p, vs, rfl, upd_same, av.mono sF⟩⟩
theorem te_known {m : S → (List α → S → Prop) → Prop} (h : PE X e (tN B Γ R m)) : PE X e (tE B Γ (RList K R) m) :=
  pe_imp h fun σ H Q ⟨s, F, K', A, hm, k⟩ => ⟨s, F, K', A, hm, fun xs s' p vs F' H' kx A' e' hp fp bp np av => by
    obtain ⟨A2, sF⟩ := A'.know fp hp bp np
    exact k xs s' (.ref p) (upd F' p (.lst vs)) H' kx A2 (e'.trans sF) ⟨p, vs, rfl, SqL.of upd_same, av.mono sF⟩⟩
theorem te_var (i : Nat) {x : Str} {f : S → α} (hG : ∀ s, (Γ s)[i]? = some (.im (R (f s))) := by intro _; rfl) (hN : X.N[i]? = some x := by rfl) (hv : Vis X.env.scope x := by first | exact Or.inl rfl | exact Or.inr (Or.inl rfl) | exact Or.inr (Or.inr rfl)) (hd : (x == ("__debug__" : Str)) = false := by decide)
    (hcd : (x == ("__classdict__" : Str)) = false := by decide) : PE X (.Name x pos) (tE B Γ R (fun s K => K (f s) s)) :=
  pe_imp (pe_var hN hv hd hcd) fun σ H Q ⟨s, F, K', A, hm, k⟩ => by
    obtain ⟨v, h1, h2⟩ := A.im (hG s)
    exact ⟨v, h1, k _ s v F H hm A (Same.refl F) h2⟩
theorem te_const {v : V} {x : α} (h : PE X e (tC v)) (hv : ∀ F, (R x).p v F) : PE X e (tE B Γ R (fun s K => K x s)) :=
  pe_imp h fun σ H Q ⟨s, F, K', A, hm, k⟩ => k _ s v F H hm A (Same.refl F) (hv F)
theorem te_int {i : Int} {j} : PE X (.Constant (.int i) j pos) (tE B Γ RInt (fun s K => K i s)) := te_const pe_int fun _ => rfl
theorem te_str {i : Str} {j} : PE X (.Constant (.str i) j pos) (tE B Γ RStr (fun s K => K i s)) := te_const pe_str fun _ => rfl
theorem te_bl {i : Bool} {j} : PE X (.Constant (.bool i) j pos) (tE B Γ RBool (fun s K => K i s)) := te_const pe_bl fun _ => rfl
theorem te_non {j} : PE X (.Constant .none j pos) (tE B Γ RNon (fun s K => K () s)) := te_const pe_non fun _ => rfl
theorem te_none {j} : PE X (.Constant .none j pos) (tE B Γ (ROpt R) (fun s K => K none s)) := te_const pe_non fun _ => rfl
theorem te_some (h : PE X e (tE B Γ R m)) (hn : ∀ x v F, (R x).p v F → v ≠ .non) : PE X e (tE B Γ (ROpt R) (fun s K => m s fun x s' => K (some x) s')) :=
  pe_imp h fun σ H Q ⟨s, F, K', A, hm, k⟩ => ⟨s, F, _, A, hm, fun x s' v F' H' kx A' e' r => k (some x) s' v F' H' kx A' e' ⟨hn _ _ _ r, r⟩⟩
/-- what is known may be weakened -/
theorem te_as {R' : β → Pd} {f : α → β} (h : PE X e (tE B Γ R m)) (hi : ∀ x v F, (R x).p v F → (R' (f x)).p v F) : PE X e (tE B Γ R' (fun s K => m s fun x s' => K (f x) s')) :=
  pe_imp h fun σ H Q ⟨s, F, K', A, hm, k⟩ => ⟨s, F, _, A, hm, fun x s' v F' H' kx A' e' r => k (f x) s' v F' H' kx A' e' (hi _ _ _ r)⟩
theorem te_glob {x : Str} {u : Value} {v : V} {y : α} (hg : Gl X x) (hm : X.mg x = some u) (r : RelV v u) (hv : ∀ F, (R y).p v F) (hd : (x == ("__debug__" : Str)) = false := by decide) : PE X (.Name x pos) (tE B Γ R (fun s K => K y s)) := te_const (pe_glob hg hm r hd) hv

/-! ### two-place operations -/
/-- no new object -/
def OpV (r : R2) (Ra : α → Pd) (Rb : β → Pd) (Rc : γ → Pd) (co : α → β → Prop) (f : α → β → γ) : Prop := ∀ x y v w F H (Q : VK), (Ra x).p v F → (Rb y).p w F → Same F H → co x y → (∀ u, (Rc (f x y)).p u F → Q u H) → r v w H Q
def OpU (r : R2) (Ra : α → Pd) (Rb : β → Pd) (Rc : γ → Pd) (f : α → β → γ) : Prop := ∀ x y v w F H (Q : VK), (Ra x).p v F → (Rb y).p w F → Same F H → (∀ u, (Rc (f x y)).p u F → Q u H) → r v w H Q
/-- a new list -/
def OpN (r : R2) (Ra : α → Pd) (Rb : β → Pd) (Rc : γ → Pd) (co : α → β → Prop) (f : α → β → List γ) : Prop := ∀ x y v w F H (Q : VK), (Ra x).p v F → (Rb y).p w F → Same F H → co x y → (∀ p vs, H p = none → AllR Rc (f x y) vs F → Q (.ref p) (upd H p (.lst vs))) → r v w H Q
theorem top_v {r : R2} {co : α → β → Prop} {f : α → β → γ} (h : OpV r Ra Rb Rc co f) {σ : L2.St} {H : Hp} {Q : VK} (q : tE B Γ Rc (fun s K => ma s fun x s1 => mb s1 fun y s2 => co x y ∧ K (f x y) s2) σ H Q) : tOp r (tE B Γ Ra ma) (tE B Γ Rb mb) σ H Q := by
  obtain ⟨s, F, K', A, hm, k⟩ := q
  exact ⟨s, F, _, A, hm, fun x s1 v F1 H1 h1 A1 e1 r1 => ⟨s1, F1, _, A1, h1, fun y s2 w F2 H2 ⟨hc, kk⟩ A2 e2 r2 => h x y v w F2 H2 Q ((Ra x).mono _ _ _ e2 r1) r2 A2.sub hc fun u ru => k _ s2 u F2 H2 kk A2 (e1.trans e2) ru⟩⟩
theorem top_u {r : R2} {f : α → β → γ} (h : OpU r Ra Rb Rc f) {σ : L2.St} {H : Hp} {Q : VK} (q : tE B Γ Rc (fun s K => ma s fun x s1 => mb s1 fun y s2 => K (f x y) s2) σ H Q) : tOp r (tE B Γ Ra ma) (tE B Γ Rb mb) σ H Q := by
  obtain ⟨s, F, K', A, hm, k⟩ := q
  exact ⟨s, F, _, A, hm, fun x s1 v F1 H1 h1 A1 e1 r1 => ⟨s1, F1, _, A1, h1, fun y s2 w F2 H2 kk A2 e2 r2 => h x y v w F2 H2 Q ((Ra x).mono _ _ _ e2 r1) r2 A2.sub fun u ru => k _ s2 u F2 H2 kk A2 (e1.trans e2) ru⟩⟩
theorem top_n {r : R2} {co : α → β → Prop} {f : α → β → List γ} (h : OpN r Ra Rb Rc co f) {σ : L2.St} {H : Hp} {Q : VK} (q : tN B Γ Rc (fun s K => ma s fun x s1 => mb s1 fun y s2 => co x y ∧ K (f x y) s2) σ H Q) : tOp r (tE B Γ Ra ma) (tE B Γ Rb mb) σ H Q := by
  obtain ⟨s, F, K', A, hm, k⟩ := q
  exact ⟨s, F, _, A, hm, fun x s1 v F1 H1 h1 A1 e1 r1 => ⟨s1, F1, _, A1, h1, fun y s2 w F2 H2 ⟨hc, kk⟩ A2 e2 r2 => h x y v w F2 H2 Q ((Ra x).mono _ _ _ e2 r1) r2 A2.sub hc fun p vs np av => by
    have fr := A2.fresh np
    exact k _ s2 p vs F2 _ kk (A2.layH np) (e1.trans e2) upd_same fr.1 fr.2 (A2.notOwn np) av⟩⟩
theorem te_op {op : Operator} {r : R2} {co : α → β → Prop} {f : α → β → γ} (ho : OpR X (binaryOp op) r) (h : OpV r Ra Rb Rc co f) (ha : PE X a (tE B Γ Ra ma)) (hb : PE X b (tE B Γ Rb mb)) :
    PE X (.BinOp a op b pos) (tE B Γ Rc (fun s K => ma s fun x s1 => mb s1 fun y s2 => co x y ∧ K (f x y) s2)) := pe_imp (pe_op ho ha hb) fun _ _ _ q => top_v h q
theorem te_opU {op : Operator} {r : R2} {f : α → β → γ} (ho : OpR X (binaryOp op) r) (h : OpU r Ra Rb Rc f) (ha : PE X a (tE B Γ Ra ma)) (hb : PE X b (tE B Γ Rb mb)) :
    PE X (.BinOp a op b pos) (tE B Γ Rc (fun s K => ma s fun x s1 => mb s1 fun y s2 => K (f x y) s2)) := pe_imp (pe_op ho ha hb) fun _ _ _ q => top_u h q
theorem tn_op {op : Operator} {r : R2} {co : α → β → Prop} {f : α → β → List γ} (ho : OpR X (binaryOp op) r) (h : OpN r Ra Rb Rc co f) (ha : PE X a (tE B Γ Ra ma)) (hb : PE X b (tE B Γ Rb mb)) :
    PE X (.BinOp a op b pos) (tN B Γ Rc (fun s K => ma s fun x s1 => mb s1 fun y s2 => co x y ∧ K (f x y) s2)) := pe_imp (pe_op ho ha hb) fun _ _ _ q => top_n h q
theorem te_cmp {op : CmpOp} {r : R2} {co : α → β → Prop} {f : α → β → γ} (ho : OpR X (compareOp op) r) (h : OpV r Ra Rb Rc co f) (ha : PE X a (tE B Γ Ra ma)) (hb : PE X b (tE B Γ Rb mb)) (hm : behindInMarks op b = false) :
    PE X (.Compare a [op] [b] pos) (tE B Γ Rc (fun s K => ma s fun x s1 => mb s1 fun y s2 => co x y ∧ K (f x y) s2)) := pe_imp (pe_cmpR ho ha hb hm) fun _ _ _ q => top_v h q
theorem te_cmpU {op : CmpOp} {r : R2} {f : α → β → γ} (ho : OpR X (compareOp op) r) (h : OpU r Ra Rb Rc f) (ha : PE X a (tE B Γ Ra ma)) (hb : PE X b (tE B Γ Rb mb)) (hm : behindInMarks op b = false) :
    PE X (.Compare a [op] [b] pos) (tE B Γ Rc (fun s K => ma s fun x s1 => mb s1 fun y s2 => K (f x y) s2)) := pe_imp (pe_cmpR ho ha hb hm) fun _ _ _ q => top_u h q

theorem opU_int {g : Int → Int → V} {f : Int → Int → γ} (h : ∀ i j F, (Rc (f i j)).p (g i j) F) : OpU (rI0 g) RInt RInt Rc f := fun x y v w F H Q hx hy _ q => ⟨x, y, hx, hy, q _ (h x y F)⟩
theorem opV_int {C : Int → Int → Prop} {g : Int → Int → V} {f : Int → Int → γ} (h : ∀ i j F, (Rc (f i j)).p (g i j) F) : OpV (rI C g) RInt RInt Rc C f := fun x y v w F H Q hx hy _ hc q => ⟨x, y, hx, hy, hc, q _ (h x y F)⟩
theorem te_add {ma mb : S → (Int → S → Prop) → Prop} (ha : PE X a (tE B Γ RInt ma)) (hb : PE X b (tE B Γ RInt mb)) : PE X (.BinOp a .Add b pos) (tE B Γ RInt (fun s K => ma s fun x s1 => mb s1 fun y s2 => K (x + y) s2)) := te_opU op_add (opU_int fun _ _ _ => rfl) ha hb
theorem te_sub {ma mb : S → (Int → S → Prop) → Prop} (ha : PE X a (tE B Γ RInt ma)) (hb : PE X b (tE B Γ RInt mb)) : PE X (.BinOp a .Sub b pos) (tE B Γ RInt (fun s K => ma s fun x s1 => mb s1 fun y s2 => K (x - y) s2)) := te_opU op_sub (opU_int fun _ _ _ => rfl) ha hb
theorem te_mul {ma mb : S → (Int → S → Prop) → Prop} (ha : PE X a (tE B Γ RInt ma)) (hb : PE X b (tE B Γ RInt mb)) : PE X (.BinOp a .Mult b pos) (tE B Γ RInt (fun s K => ma s fun x s1 => mb s1 fun y s2 => CMul x y ∧ K (x * y) s2)) := te_op op_mul (opV_int fun _ _ _ => rfl) ha hb
theorem te_fdiv {ma mb : S → (Int → S → Prop) → Prop} (ha : PE X a (tE B Γ RInt ma)) (hb : PE X b (tE B Γ RInt mb)) : PE X (.BinOp a .FloorDiv b pos) (tE B Γ RInt (fun s K => ma s fun x s1 => mb s1 fun y s2 => CDivN x y ∧ K (x.fdiv y) s2)) := te_op op_fdivN (opV_int fun _ _ _ => rfl) ha hb
theorem te_mod {ma mb : S → (Int → S → Prop) → Prop} (ha : PE X a (tE B Γ RInt ma)) (hb : PE X b (tE B Γ RInt mb)) : PE X (.BinOp a .Mod b pos) (tE B Γ RInt (fun s K => ma s fun x s1 => mb s1 fun y s2 => y ≠ 0 ∧ K (x.fmod y) s2)) := te_op (co := fun _ y => y ≠ 0) op_modN (opV_int fun _ _ _ => rfl) ha hb
theorem te_pow {ma mb : S → (Int → S → Prop) → Prop} (ha : PE X a (tE B Γ RInt ma)) (hb : PE X b (tE B Γ RInt mb)) : PE X (.BinOp a .Pow b pos) (tE B Γ RInt (fun s K => ma s fun x s1 => mb s1 fun y s2 => CPow x y ∧ K (x ^ y.toNat) s2)) := te_op op_pow (opV_int fun _ _ _ => rfl) ha hb
theorem te_neg {ma : S → (Int → S → Prop) → Prop} (ha : PE X a (tE B Γ RInt ma)) : PE X (.UnaryOp .USub a pos) (tE B Γ RInt (fun s K => ma s fun x s1 => K (-x) s1)) :=
  pe_imp (pe_un un_neg ha) fun σ H Q ⟨s, F, K', A, hm, k⟩ => ⟨s, F, _, A, hm, fun x s1 v F1 H1 h1 A1 e1 r1 => ⟨x, r1, k _ s1 _ F1 H1 h1 A1 e1 rfl⟩⟩
theorem te_lt {ma mb : S → (Int → S → Prop) → Prop} (ha : PE X a (tE B Γ RInt ma)) (hb : PE X b (tE B Γ RInt mb)) : PE X (.Compare a [.Lt] [b] pos) (tE B Γ RBool (fun s K => ma s fun x s1 => mb s1 fun y s2 => K (decide (x < y)) s2)) := te_cmpU op_lt (opU_int fun _ _ _ => rfl) ha hb (nomark _)
theorem te_le {ma mb : S → (Int → S → Prop) → Prop} (ha : PE X a (tE B Γ RInt ma)) (hb : PE X b (tE B Γ RInt mb)) : PE X (.Compare a [.LtE] [b] pos) (tE B Γ RBool (fun s K => ma s fun x s1 => mb s1 fun y s2 => K (decide (x ≤ y)) s2)) := te_cmpU op_le (opU_int fun _ _ _ => rfl) ha hb (nomark _)
theorem te_gt {ma mb : S → (Int → S → Prop) → Prop} (ha : PE X a (tE B Γ RInt ma)) (hb : PE X b (tE B Γ RInt mb)) : PE X (.Compare a [.Gt] [b] pos) (tE B Γ RBool (fun s K => ma s fun x s1 => mb s1 fun y s2 => K (decide (y < x)) s2)) := te_cmpU op_gt (opU_int fun _ _ _ => rfl) ha hb (nomark _)
theorem te_ge {ma mb : S → (Int → S → Prop) → Prop} (ha : PE X a (tE B Γ RInt ma)) (hb : PE X b (tE B Γ RInt mb)) : PE X (.Compare a [.GtE] [b] pos) (tE B Γ RBool (fun s K => ma s fun x s1 => mb s1 fun y s2 => K (decide (y ≤ x)) s2)) := te_cmpU op_ge (opU_int fun _ _ _ => rfl) ha hb (nomark _)
/-- == of flat values: ints, bools, texts, None -/
structure Flat (R : α → Pd) (g : α → V) : Prop where
  rep : ∀ x v F, (R x).p v F → v = g x
  inj : ∀ x y, g x = g y → x = y
  sc : ∀ x y, scal (g x) (g y) = true
theorem flat_int : Flat RInt V.int := ⟨fun _ _ _ h => h, fun _ _ h => by injection h, fun _ _ => rfl⟩
theorem flat_bool : Flat RBool V.bl := ⟨fun _ _ _ h => h, fun _ _ h => by injection h, fun _ _ => rfl⟩
theorem flat_str : Flat RStr V.str := ⟨fun _ _ _ h => h, fun _ _ h => by injection h, fun _ _ => rfl⟩
theorem opU_eq [DecidableEq α] {g : α → V} (h : Flat R g) : OpU rEq R R RBool (fun x y => decide (x = y)) := fun x y v w F H Q hx hy _ q => by
  have e1 := h.rep _ _ _ hx
  have e2 := h.rep _ _ _ hy
  subst e1; subst e2
  refine ⟨h.sc x y, q _ ?_⟩
  show V.bl _ = V.bl _
  congr 1
  by_cases e : x = y
  · subst e; simp
  · simp [e, show ¬ g x = g y from fun z => e (h.inj x y z)]
theorem opU_ne [DecidableEq α] {g : α → V} (h : Flat R g) : OpU rNe R R RBool (fun x y => !decide (x = y)) := fun x y v w F H Q hx hy _ q => by
  have e1 := h.rep _ _ _ hx
  have e2 := h.rep _ _ _ hy
  subst e1; subst e2
  refine ⟨h.sc x y, q _ ?_⟩
  show V.bl _ = V.bl _
  congr 1
  by_cases e : x = y
  · subst e; simp
  · simp [e, show ¬ g x = g y from fun z => e (h.inj x y z)]
theorem te_eq [DecidableEq α] {g : α → V} (h : Flat R g) {mb : S → (α → S → Prop) → Prop} (ha : PE X a (tE B Γ R ma)) (hb : PE X b (tE B Γ R mb)) : PE X (.Compare a [.Eq] [b] pos) (tE B Γ RBool (fun s K => ma s fun x s1 => mb s1 fun y s2 => K (decide (x = y)) s2)) := te_cmpU op_eq (opU_eq h) ha hb (nomark _)
theorem te_ne [DecidableEq α] {g : α → V} (h : Flat R g) {mb : S → (α → S → Prop) → Prop} (ha : PE X a (tE B Γ R ma)) (hb : PE X b (tE B Γ R mb)) : PE X (.Compare a [.NotEq] [b] pos) (tE B Γ RBool (fun s K => ma s fun x s1 => mb s1 fun y s2 => K (!decide (x = y)) s2)) := te_cmpU op_ne (opU_ne h) ha hb (nomark _)
theorem te_isb {ma mb : S → (Bool → S → Prop) → Prop} (ha : PE X a (tE B Γ RBool ma)) (hb : PE X b (tE B Γ RBool mb)) : PE X (.Compare a [.Is] [b] pos) (tE B Γ RBool (fun s K => ma s fun x s1 => mb s1 fun y s2 => K (decide (x = y)) s2)) :=
  te_cmpU op_is_bl (fun x y v w F H Q hx hy _ q => ⟨x, y, hx, hy, q _ rfl⟩) ha hb (nomark _)
theorem te_isnotb {ma mb : S → (Bool → S → Prop) → Prop} (ha : PE X a (tE B Γ RBool ma)) (hb : PE X b (tE B Γ RBool mb)) : PE X (.Compare a [.IsNot] [b] pos) (tE B Γ RBool (fun s K => ma s fun x s1 => mb s1 fun y s2 => K (!decide (x = y)) s2)) :=
  te_cmpU op_isnot_bl (fun x y v w F H Q hx hy _ q => ⟨x, y, hx, hy, q _ rfl⟩) ha hb (nomark _)

/-- a comparison by typed values -/
def OpG (r : R2) (Ra : α → Pd) (Rb : β → Pd) (f : α → β → Bool) : Prop := ∀ x y v w F H (Q : VK), (Ra x).p v F → (Rb y).p w F → Same F H → (∀ F' H', Same F F' → Same H H' → Same F' H' → Nw F H F' → Q (.bl (f x y)) H') → r v w H Q
theorem OpU.g {r : R2} {f : α → β → Bool} (h : OpU r Ra Rb RBool f) : OpG r Ra Rb f := fun x y v w F H Q hx hy e q => h x y v w F H Q hx hy e fun u hu => by
  have hu : u = .bl (f x y) := hu
  subst hu
  exact q F H (Same.refl F) (Same.refl H) e Nw.refl
def CR (X : Cx) (op : CmpOp) (Ra : α → Pd) (Rb : β → Pd) (f : α → β → Bool) : Prop := ∃ r, OpR X (compareOp op) r ∧ OpG r Ra Rb f
theorem te_c {op : CmpOp} {f : α → β → Bool} (h : CR X op Ra Rb f) (ha : PE X a (tE B Γ Ra ma)) (hb : PE X b (tE B Γ Rb mb)) (hm : behindInMarks op b = false := by first | exact nomark _ | rfl) :
    PE X (.Compare a [op] [b] pos) (tE B Γ RBool (fun s K => ma s fun x s1 => mb s1 fun y s2 => K (f x y) s2)) := by
  obtain ⟨r, h1, h2⟩ := h
  refine pe_imp (pe_cmpR h1 ha hb hm) fun σ H Q ⟨s, F, K', A, hm, k⟩ => ?_
  exact ⟨s, F, _, A, hm, fun x s1 v F1 H1 h1 A1 e1 r1 => ⟨s1, F1, _, A1, h1, fun y s2 w F2 H2 kk A2 e2 r2 => h2 x y v w F2 H2 _ ((Ra x).mono _ _ _ e2 r1) r2 A2.sub fun F3 H3 z1 z2 z3 z4 => k _ s2 _ F3 H3 kk (A2.grow z1 z2 z3 z4) ((e1.trans e2).trans z1) rfl⟩⟩
theorem tt_c {op : CmpOp} {f : α → β → Bool} (h : CR X op Ra Rb f) (ha : PE X a (tE B Γ Ra ma)) (hb : PE X b (tE B Γ Rb mb)) (hm : behindInMarks op b = false := by first | exact nomark _ | rfl) :
    PT X (.Compare a [op] [b] pos) (tT B Γ (fun s K => ma s fun x s1 => mb s1 fun y s2 => K (f x y) s2)) := by
  obtain ⟨r, h1, h2⟩ := h
  refine pt_imp (pt_cmpR h1 ha hb hm) fun σ H Q ⟨s, F, K', A, hm, k⟩ => ?_
  exact ⟨s, F, _, A, hm, fun x s1 v F1 H1 h1 A1 e1 r1 => ⟨s1, F1, _, A1, h1, fun y s2 w F2 H2 kk A2 e2 r2 => h2 x y v w F2 H2 _ ((Ra x).mono _ _ _ e2 r1) r2 A2.sub fun F3 H3 z1 z2 z3 z4 => ⟨f x y, rfl, k _ s2 F3 H3 kk (A2.grow z1 z2 z3 z4) ((e1.trans e2).trans z1)⟩⟩⟩
theorem cr_lt : CR X .Lt RInt RInt (fun x y => decide (x < y)) := ⟨_, op_lt, (opU_int fun _ _ _ => rfl).g⟩
theorem cr_le : CR X .LtE RInt RInt (fun x y => decide (x ≤ y)) := ⟨_, op_le, (opU_int fun _ _ _ => rfl).g⟩
theorem cr_gt : CR X .Gt RInt RInt (fun x y => decide (y < x)) := ⟨_, op_gt, (opU_int fun _ _ _ => rfl).g⟩
theorem cr_ge : CR X .GtE RInt RInt (fun x y => decide (y ≤ x)) := ⟨_, op_ge, (opU_int fun _ _ _ => rfl).g⟩
theorem cr_eq [DecidableEq α] {g : α → V} (h : Flat R g) : CR X .Eq R R (fun x y => decide (x = y)) := ⟨_, op_eq, (opU_eq h).g⟩
theorem cr_ne [DecidableEq α] {g : α → V} (h : Flat R g) : CR X .NotEq R R (fun x y => !decide (x = y)) := ⟨_, op_ne, (opU_ne h).g⟩
theorem cr_isb : CR X .Is RBool RBool (fun x y => decide (x = y)) := ⟨_, op_is_bl, OpU.g fun x y v w F H Q hx hy _ q => ⟨x, y, hx, hy, q _ rfl⟩⟩
theorem cr_isnotb : CR X .IsNot RBool RBool (fun x y => !decide (x = y)) := ⟨_, op_isnot_bl, OpU.g fun x y v w F H Q hx hy _ q => ⟨x, y, hx, hy, q _ rfl⟩⟩
theorem cr_isN : CR X .Is (ROpt R) RNon (fun x _ => x.isNone) := ⟨_, op_isN, OpU.g fun x y v w F H Q hx hy _ q => ⟨hy, q _ (by
  show V.bl _ = V.bl _
  congr 1
  cases x with
  | none => have h : v = .non := hx; subst h; rfl
  | some z => exact decide_eq_false hx.1)⟩⟩
theorem cr_notN : CR X .IsNot (ROpt R) RNon (fun x _ => x.isSome) := ⟨_, op_notN, OpU.g fun x y v w F H Q hx hy _ q => ⟨hy, q _ (by
  show V.bl _ = V.bl _
  congr 1
  cases x with
  | none => have h : v = .non := hx; subst h; rfl
  | some z => rw [decide_eq_false hx.1]; rfl)⟩⟩
theorem cr_strlt : CR X .Lt RStr RStr (fun x y => decide (x.cps.toList < y.cps.toList)) := ⟨_, op_lt_str, OpU.g fun x y v w F H Q hx hy _ q => ⟨x, y, hx, hy, q _ rfl⟩⟩

/-! ### == of data -/
/-- a typed value as data, n deep at most -/
structure Dat (K : PySem.W.Frag) (R : α → Pd) (d : α → PyData) (n : Nat) : Prop where
  dp : ∀ x v F, (R x).p v F → Dp K F v (d x)
  lay : ∀ x, (d x).canLay0 = true
  inj : ∀ x y, PyData.eqv (d x) (d y) = true ↔ x = y
  dep : ∀ x, (d x).depth ≤ n
theorem dat_int : Dat K RInt PyData.int 0 := ⟨fun x v F h => by have h : v = .int x := h; subst h; exact .int x, fun _ => rfl, fun x y => by show (x == y) = true ↔ x = y; exact beq_iff_eq, fun _ => Nat.le_refl _⟩
theorem dat_bool : Dat K RBool PyData.bool 0 := ⟨fun x v F h => by have h : v = .bl x := h; subst h; exact .bl x, fun _ => rfl, fun x y => by show (x == y) = true ↔ x = y; exact beq_iff_eq, fun _ => Nat.le_refl _⟩
theorem eqvAll_iff {d : α → PyData} (h : ∀ x y, PyData.eqv (d x) (d y) = true ↔ x = y) : ∀ xs ys : List α, PyData.eqvAll (xs.map d) (ys.map d) = true ↔ xs = ys
  | [], [] => ⟨fun _ => rfl, fun _ => rfl⟩
  | [], _ :: _ => ⟨fun z => (nomatch z), fun z => (nomatch z)⟩
  | _ :: _, [] => ⟨fun z => (nomatch z), fun z => (nomatch z)⟩
  | x :: xs, y :: ys => by
    show (PyData.eqv (d x) (d y) && PyData.eqvAll (xs.map d) (ys.map d)) = true ↔ _
    rw [Bool.and_eq_true, h, eqvAll_iff h xs ys, List.cons.injEq]
theorem canAll {d : α → PyData} (h : ∀ x, (d x).canLay0 = true) : ∀ xs : List α, PyData.canLayAll0 (xs.map d) = true
  | [] => rfl
  | x :: xs => by
    show ((d x).canLay0 && PyData.canLayAll0 (xs.map d)) = true
    rw [h, canAll h xs]; rfl
theorem depAll {d : α → PyData} {n : Nat} (h : ∀ x, (d x).depth ≤ n) : ∀ xs : List α, PyData.depthAll (xs.map d) ≤ n
  | [] => Nat.zero_le _
  | x :: xs => by
    show max (d x).depth (PyData.depthAll (xs.map d)) ≤ n
    exact Nat.max_le.mpr ⟨h x, depAll h xs⟩
theorem dpAll {d : α → PyData} {F : Hp} (h : ∀ x v, (R x).p v F → Dp K F v (d x)) : ∀ {xs : List α} {vs : List V}, AllR R xs vs F → DpAll K F vs (xs.map d)
  | [], [], _ => .nil
  | _ :: _, _ :: _, q => .cons (h _ _ q.1) (dpAll h q.2)
theorem dat_list {d : α → PyData} {n : Nat} (h : Dat K R d n) : Dat K (RList K R) (fun xs => .list (xs.map d)) (n + 1) :=
  ⟨fun x v F ⟨a, vs, h1, h2, h3⟩ => by subst h1; exact .lst h2 (dpAll (fun x v => h.dp x v F) h3), fun x => canAll h.lay x, fun x y => eqvAll_iff h.inj x y, fun x => by
    show PyData.depthAll (x.map d) + 1 ≤ n + 1
    exact Nat.succ_le_succ (depAll h.dep x)⟩
theorem dat_tup {d : α → PyData} {n : Nat} (h : Dat K R d n) : Dat K (RTup K R) (fun xs => .tuple (xs.map d)) (n + 1) :=
  ⟨fun x v F ⟨a, vs, h1, h2, h3⟩ => by subst h1; exact .tup h2 (dpAll (fun x v => h.dp x v F) h3), fun x => canAll h.lay x, fun x y => eqvAll_iff h.inj x y, fun x => by
    show PyData.depthAll (x.map d) + 1 ≤ n + 1
    exact Nat.succ_le_succ (depAll h.dep x)⟩
theorem Dp.same {F H : Hp} (e : Same F H) : (∀ {v : V} {d : PyData}, Dp K F v d → Dp K H v d) := by
  intro v d h
  induction h using Dp.rec (motive_2 := fun vs ds _ => DpAll K H vs ds) with
  | non => exact .non
  | bl b => exact .bl b
  | int i => exact .int i
  | str x => exact .str x
  | lst h1 _ ih => exact .lst (seqL_mono e h1) ih
  | tup h1 _ ih => exact .tup (seqT_mono e h1) ih
  | nil => exact .nil
  | cons _ _ ih1 ih2 => exact .cons ih1 ih2
theorem Dat.sh {d : α → PyData} {n : Nat} (h : Dat K R d n) (hn : n ≤ 64) (x : α) : SeqAt.shaped (d x) = true := by
  unfold SeqAt.shaped
  rw [h.lay, decide_eq_true (Nat.le_trans (h.dep x) hn)]; rfl
theorem Dat.eqv [DecidableEq α] {d : α → PyData} {n : Nat} (h : Dat K R d n) (x y : α) : PyData.eqv (d x) (d y) = decide (x = y) := by
  by_cases e : x = y
  · rw [decide_eq_true e]; exact (h.inj x y).mpr e
  · rw [decide_eq_false e]
    cases q : PyData.eqv (d x) (d y) with
    | false => rfl
    | true => exact absurd ((h.inj x y).mp q) e
theorem cr_eqD [DecidableEq α] {d : α → PyData} {n : Nat} (hK : X.K = K) (hu : X.A.units + 64 < cLine) (h : Dat K R d n) (hn : n ≤ 60 := by decide) : CR X .Eq R R (fun x y => decide (x = y)) := by
  subst hK
  refine ⟨_, op_eqD hu, OpU.g fun x y v w F H Q hx hy e q => ⟨d x, d y, Dp.same e (h.dp _ _ _ hx), Dp.same e (h.dp _ _ _ hy), h.sh (by omega) x, h.sh (by omega) y, ?_⟩⟩
  rw [h.eqv]
  exact q _ rfl
theorem cr_neD [DecidableEq α] {d : α → PyData} {n : Nat} (hK : X.K = K) (hu : X.A.units + 64 < cLine) (h : Dat K R d n) (hn : n ≤ 60 := by decide) : CR X .NotEq R R (fun x y => !decide (x = y)) := by
  subst hK
  refine ⟨_, op_neD hu, OpU.g fun x y v w F H Q hx hy e q => ⟨d x, d y, Dp.same e (h.dp _ _ _ hx), Dp.same e (h.dp _ _ _ hy), h.sh (by omega) x, h.sh (by omega) y, ?_⟩⟩
  rw [h.eqv]
  exact q _ rfl

/-! ### tests, and, or, not, x if c else y -/
variable {mt mt' : S → (Bool → S → Prop) → Prop}
/-- a value as a test: not a comparison, and, or, not -/
theorem tt_val (h : PE X e (tE B Γ RBool mt)) (he : ∀ whole, isTrue e X.env whole = (do let v ← whole; standAt e.pos; holding [v] (truthy v)) := by intro _; rfl) : PT X e (tT B Γ mt) :=
  pt_imp (pt_val h he) fun σ H Q ⟨s, F, K', A, hm, k⟩ => ⟨s, F, _, A, hm, fun x s1 v F1 H1 h1 A1 e1 r1 => ⟨x, r1, k x s1 F1 H1 h1 A1 e1⟩⟩
theorem tt_not (h : PT X e (tT B Γ mt)) : PT X (.UnaryOp .Not e pos) (tT B Γ (fun s K => mt s fun x s1 => K (!x) s1)) :=
  pt_imp (pt_not h) fun σ H Q ⟨s, F, K', A, hm, k⟩ => ⟨s, F, _, A, hm, fun x s1 F1 H1 h1 A1 e1 => k (!x) s1 F1 H1 h1 A1 e1⟩
theorem te_not (h : PE X e (tE B Γ RBool mt)) : PE X (.UnaryOp .Not e pos) (tE B Γ RBool (fun s K => mt s fun x s1 => K (!x) s1)) :=
  pe_imp (pe_not h) fun σ H Q ⟨s, F, K', A, hm, k⟩ => ⟨s, F, _, A, hm, fun x s1 v F1 H1 h1 A1 e1 r1 => ⟨x, r1, k (!x) s1 _ F1 H1 h1 A1 e1 rfl⟩⟩
/-- a value by a test (and, or, not, comparisons stand as values too where they are given so) -/
theorem tw_and1 (h : PT X a (tT B Γ mt)) : PW X (.BoolOp .And [a] pos) (tT B Γ mt) := pw_and1 h
theorem tw_or1 (h : PT X a (tT B Γ mt)) : PW X (.BoolOp .Or [a] pos) (tT B Γ mt) := pw_or1 h
theorem tw_and {rest : List Expr} (h : PT X a (tT B Γ mt)) (h' : PW X (.BoolOp .And (b :: rest) pos) (tT B Γ mt')) : PW X (.BoolOp .And (a :: b :: rest) pos) (tT B Γ (fun s K => mt s fun x s1 => if x = true then mt' s1 K else K false s1)) :=
  pw_imp (pw_and h h') fun σ H Q ⟨s, F, K', A, hm, k⟩ => ⟨s, F, _, A, hm, fun x s1 F1 H1 h1 A1 e1 => by
    cases x with
    | true => exact ⟨s1, F1, _, A1, h1, fun b s2 F2 H2 h2 A2 e2 => k b s2 F2 H2 h2 A2 (e1.trans e2)⟩
    | false => exact k false s1 F1 H1 h1 A1 e1⟩
theorem tw_or {rest : List Expr} (h : PT X a (tT B Γ mt)) (h' : PW X (.BoolOp .Or (b :: rest) pos) (tT B Γ mt')) : PW X (.BoolOp .Or (a :: b :: rest) pos) (tT B Γ (fun s K => mt s fun x s1 => if x = true then K true s1 else mt' s1 K)) :=
  pw_imp (pw_or h h') fun σ H Q ⟨s, F, K', A, hm, k⟩ => ⟨s, F, _, A, hm, fun x s1 F1 H1 h1 A1 e1 => by
    cases x with
    | false => exact ⟨s1, F1, _, A1, h1, fun b s2 F2 H2 h2 A2 e2 => k b s2 F2 H2 h2 A2 (e1.trans e2)⟩
    | true => exact k true s1 F1 H1 h1 A1 e1⟩
theorem tt_w (h : PW X e (tT B Γ mt)) : PT X e (tT B Γ mt) := h.pt
theorem te_and1 (h : PE X a (tE B Γ RBool mt)) {op} : PE X (.BoolOp op [a] pos) (tE B Γ RBool mt) := pe_one h
theorem te_and {rest : List Expr} (h : PE X a (tE B Γ RBool mt)) (h' : PE X (.BoolOp .And (b :: rest) pos) (tE B Γ RBool mt')) : PE X (.BoolOp .And (a :: b :: rest) pos) (tE B Γ RBool (fun s K => mt s fun x s1 => if x = true then mt' s1 K else K false s1)) :=
  pe_imp (pe_and h h') fun σ H Q ⟨s, F, K', A, hm, k⟩ => ⟨s, F, _, A, hm, fun x s1 v F1 H1 h1 A1 e1 r1 => by
    refine ⟨x, r1, ?_⟩
    cases x with
    | true => exact ⟨s1, F1, _, A1, h1, fun b s2 v2 F2 H2 h2 A2 e2 r2 => k b s2 v2 F2 H2 h2 A2 (e1.trans e2) r2⟩
    | false => exact k false s1 _ F1 H1 h1 A1 e1 rfl⟩
theorem te_or {rest : List Expr} (h : PE X a (tE B Γ RBool mt)) (h' : PE X (.BoolOp .Or (b :: rest) pos) (tE B Γ RBool mt')) : PE X (.BoolOp .Or (a :: b :: rest) pos) (tE B Γ RBool (fun s K => mt s fun x s1 => if x = true then K true s1 else mt' s1 K)) :=
  pe_imp (pe_or h h') fun σ H Q ⟨s, F, K', A, hm, k⟩ => ⟨s, F, _, A, hm, fun x s1 v F1 H1 h1 A1 e1 r1 => by
    refine ⟨x, r1, ?_⟩
    cases x with
    | false => exact ⟨s1, F1, _, A1, h1, fun b s2 v2 F2 H2 h2 A2 e2 r2 => k b s2 v2 F2 H2 h2 A2 (e1.trans e2) r2⟩
    | true => exact k true s1 _ F1 H1 h1 A1 e1 rfl⟩
theorem te_if {ma' : S → (α → S → Prop) → Prop} (hc : PT X c (tT B Γ mt)) (ha : PE X a (tE B Γ R ma)) (hb : PE X b (tE B Γ R ma')) : PE X (.IfExp c a b pos) (tE B Γ R (fun s K => mt s fun x s1 => if x = true then ma s1 K else ma' s1 K)) :=
  pe_imp (pe_ifExp hc ha hb) fun σ H Q ⟨s, F, K', A, hm, k⟩ => ⟨s, F, _, A, hm, fun x s1 F1 H1 h1 A1 e1 => by
    cases x with
    | true => exact ⟨s1, F1, _, A1, h1, fun b s2 v2 F2 H2 h2 A2 e2 r2 => k b s2 v2 F2 H2 h2 A2 (e1.trans e2) r2⟩
    | false => exact ⟨s1, F1, _, A1, h1, fun b s2 v2 F2 H2 h2 A2 e2 r2 => k b s2 v2 F2 H2 h2 A2 (e1.trans e2) r2⟩⟩
/-- a < b < c -/
theorem tt_chain {op op' : CmpOp} {f : α → β → Bool} {g : β → γ → Bool} {mc : S → (γ → S → Prop) → Prop} (h : CR X op Ra Rb f) (h' : CR X op' Rb Rc g) (ha : PE X a (tE B Γ Ra ma)) (hb : PE X b (tE B Γ Rb mb)) (hc : PE X c (tE B Γ Rc mc)) (hm : lastMarks [op, op'] [b, c] = false := by with_unfolding_all rfl) :
    PT X (.Compare a [op, op'] [b, c] pos) (tT B Γ (fun s K => ma s fun x s1 => mb s1 fun y s2 => if f x y = true then mc s2 fun z s3 => K (g y z) s3 else K false s2)) := by
  obtain ⟨r, h1, h2⟩ := h
  obtain ⟨r', h1', h2'⟩ := h'
  refine pt_imp (pt_chain h1 h1' ha hb hc hm) fun σ H Q ⟨s, F, K', A, hm, k⟩ => ?_
  exact ⟨s, F, _, A, hm, fun x s1 v F1 H1 q1 A1 e1 r1 => ⟨s1, F1, _, A1, q1, fun y s2 w F2 H2 kk A2 e2 r2 => h2 x y v w F2 H2 _ ((Ra x).mono _ _ _ e2 r1) r2 A2.sub fun F2' H2' z1 z2 z3 z4 => ⟨f x y, rfl, by
    have A2' := A2.grow z1 z2 z3 z4
    cases hf : f x y with
    | true =>
      rw [hf, if_pos rfl] at kk
      rw [if_pos rfl]
      exact ⟨s2, F2', _, A2', kk, fun z s3 u F3 H3 k3 A3 e3 r3 => h2' y z w u F3 H3 _ ((Rb y).mono _ _ _ (z1.trans e3) r2) r3 A3.sub fun F4 H4 y1 y2 y3 y4 => ⟨g y z, rfl, k _ s3 F4 H4 k3 (A3.grow y1 y2 y3 y4) ((((e1.trans e2).trans z1).trans e3).trans y1)⟩⟩
    | false =>
      rw [hf, if_neg Bool.false_ne_true] at kk
      rw [if_neg Bool.false_ne_true]
      exact ⟨false, rfl, k false s2 F2' H2' kk A2' ((e1.trans e2).trans z1)⟩⟩⟩⟩
theorem te_chain {op op' : CmpOp} {f : α → β → Bool} {g : β → γ → Bool} {mc : S → (γ → S → Prop) → Prop} (h : CR X op Ra Rb f) (h' : CR X op' Rb Rc g) (ha : PE X a (tE B Γ Ra ma)) (hb : PE X b (tE B Γ Rb mb)) (hc : PE X c (tE B Γ Rc mc)) (hm : lastMarks [op, op'] [b, c] = false := by with_unfolding_all rfl) :
    PE X (.Compare a [op, op'] [b, c] pos) (tE B Γ RBool (fun s K => ma s fun x s1 => mb s1 fun y s2 => if f x y = true then mc s2 fun z s3 => K (g y z) s3 else K false s2)) := by
  obtain ⟨r, h1, h2⟩ := h
  obtain ⟨r', h1', h2'⟩ := h'
  refine pe_imp (pe_chain h1 h1' ha hb hc hm) fun σ H Q ⟨s, F, K', A, hm, k⟩ => ?_
  exact ⟨s, F, _, A, hm, fun x s1 v F1 H1 q1 A1 e1 r1 => ⟨s1, F1, _, A1, q1, fun y s2 w F2 H2 kk A2 e2 r2 => h2 x y v w F2 H2 _ ((Ra x).mono _ _ _ e2 r1) r2 A2.sub fun F2' H2' z1 z2 z3 z4 => ⟨f x y, rfl, by
    have A2' := A2.grow z1 z2 z3 z4
    cases hf : f x y with
    | true =>
      rw [hf, if_pos rfl] at kk
      rw [if_pos rfl]
      exact ⟨s2, F2', _, A2', kk, fun z s3 u F3 H3 k3 A3 e3 r3 => h2' y z w u F3 H3 _ ((Rb y).mono _ _ _ (z1.trans e3) r2) r3 A3.sub fun F4 H4 y1 y2 y3 y4 => k _ s3 _ F4 H4 k3 (A3.grow y1 y2 y3 y4) ((((e1.trans e2).trans z1).trans e3).trans y1) rfl⟩
    | false =>
      rw [hf, if_neg Bool.false_ne_true] at kk
      rw [if_neg Bool.false_ne_true]
      exact k false s2 _ F2' H2' kk A2' ((e1.trans e2).trans z1) rfl⟩⟩⟩

/-! ### arguments, displays -/
variable {As : ι → List Pd} {mr : S → (ι → S → Prop) → Prop} {es : List Expr}
theorem ta_nil : PA X [] (tA B Γ anil (fun s K => K () s)) := pa_imp pa_nil fun σ H Q ⟨s, F, K', A, hm, k⟩ => k () s [] F H hm A (Same.refl F) trivial
theorem ta_cons (h : PE X e (tE B Γ R m)) (hr : PA X es (tA B Γ As mr)) (hs : starEach (e :: es) X.env = (false, eval e X.env) :: starEach es X.env := by rfl) : PA X (e :: es) (tA B Γ (acons R As) (fun s K => m s fun x s1 => mr s1 fun y s2 => K (x, y) s2)) :=
  pa_imp (pa_cons h hr hs) fun σ H Q ⟨s, F, K', A, hm, k⟩ => ⟨s, F, _, A, hm, fun x s1 v F1 H1 q1 A1 e1 r1 => ⟨s1, F1, _, A1, q1, fun y s2 vs F2 H2 q2 A2 e2 r2 => k (x, y) s2 (v :: vs) F2 H2 q2 A2 (e1.trans e2) ⟨(R x).mono _ _ _ e2 r1, r2⟩⟩⟩
/-- items of one kind -/
def tL {S α : Type} (B : Bs) (Γ : S → List Sl) (R : α → Pd) (m : S → (List α → S → Prop) → Prop) : TA := fun σ H Q =>
  ∃ s F K, At B (Γ s) σ F H ∧ m s K ∧ ∀ xs s' vs F' H', K xs s' → At B (Γ s') σ F' H' → Same F F' → AllR R xs vs F' → Q vs H'
theorem tl_nil : PA X [] (tL B Γ R (fun s K => K [] s)) := pa_imp pa_nil fun σ H Q ⟨s, F, K', A, hm, k⟩ => k [] s [] F H hm A (Same.refl F) trivial
theorem tl_cons {ml : S → (List α → S → Prop) → Prop} (h : PE X e (tE B Γ R m)) (hr : PA X es (tL B Γ R ml)) (hs : starEach (e :: es) X.env = (false, eval e X.env) :: starEach es X.env := by rfl) : PA X (e :: es) (tL B Γ R (fun s K => m s fun x s1 => ml s1 fun y s2 => K (x :: y) s2)) :=
  pa_imp (pa_cons h hr hs) fun σ H Q ⟨s, F, K', A, hm, k⟩ => ⟨s, F, _, A, hm, fun x s1 v F1 H1 q1 A1 e1 r1 => ⟨s1, F1, _, A1, q1, fun y s2 vs F2 H2 q2 A2 e2 r2 => k (x :: y) s2 (v :: vs) F2 H2 q2 A2 (e1.trans e2) ⟨(R x).mono _ _ _ e2 r1, r2⟩⟩⟩
theorem smallLen {n : Nat} (h : n ≤ 1000000) : n ≤ sizeLine := Nat.le_trans h (by decide)
theorem tn_list {ml : S → (List α → S → Prop) → Prop} (h : PA X es (tL B Γ R ml)) : PE X (.List es pos) (tN B Γ R (fun s K => ml s fun xs s1 => xs.length ≤ 1000000 ∧ K xs s1)) :=
  pe_imp (pe_lst h) fun σ H Q ⟨s, F, K', A, hm, k⟩ => ⟨s, F, _, A, hm, fun xs s1 vs F1 H1 ⟨q0, q1⟩ A1 e1 r1 => ⟨by rw [r1.len]; exact smallLen q0, fun p np => by
    have fr := A1.fresh np
    exact k xs s1 p vs F1 _ q1 (A1.layH np) e1 upd_same fr.1 fr.2 (A1.notOwn np) r1⟩⟩
theorem te_tuple {ml : S → (List α → S → Prop) → Prop} {x1} (h : PA X es (tL B Γ R ml)) : PE X (.Tuple es x1 pos) (tE B Γ (RTup K R) (fun s K => ml s fun xs s1 => xs.length ≤ 1000000 ∧ K xs s1)) :=
  pe_imp (pe_tup h) fun σ H Q ⟨s, F, K', A, hm, k⟩ => ⟨s, F, _, A, hm, fun xs s1 vs F1 H1 ⟨q0, q1⟩ A1 e1 r1 => ⟨by rw [r1.len]; exact smallLen q0, fun p np => by
    obtain ⟨A2, e2⟩ := A1.lay (o := .tup vs) np
    exact k xs s1 (.ref p) _ _ q1 A2 (e1.trans e2) ⟨p, vs, rfl, SqT.of upd_same, r1.mono e2⟩⟩⟩
theorem te_pair {x1} (ha : PE X a (tE B Γ Ra ma)) (hb : PE X b (tE B Γ Rb mb)) (hs : starEach [a, b] X.env = (false, eval a X.env) :: starEach [b] X.env := by rfl) (hs2 : starEach [b] X.env = (false, eval b X.env) :: starEach [] X.env := by rfl) :
    PE X (.Tuple [a, b] x1 pos) (tE B Γ (RPair K Ra Rb) (fun s K => ma s fun x s1 => mb s1 fun y s2 => K (x, y) s2)) :=
  pe_imp (pe_tup (ta_cons ha (ta_cons hb ta_nil hs2) hs)) fun σ H Q ⟨s, F, K', A, hm, k⟩ => ⟨s, F, fun x s' => K' (x.1, x.2.1) s', A, hm, fun x s1 vs F1 H1 q1 A1 e1 r1 => by
    obtain ⟨x, y, u⟩ := x
    match vs, r1 with
    | [v1, v2], ⟨r1, r2, _⟩ =>
      refine ⟨by show 2 ≤ sizeLine; decide, fun p np => ?_⟩
      obtain ⟨A2, e2⟩ := A1.lay (o := .tup [v1, v2]) np
      exact k (x, y) s1 (.ref p) _ _ q1 A2 (e1.trans e2) ⟨p, v1, v2, rfl, SqT.of upd_same, (Ra x).mono _ _ _ e2 r1, (Rb y).mono _ _ _ e2 r2⟩⟩
end
end TL
namespace TL
open PySem L2

section
variable {X : Cx} {S : Type} {B : Bs} {Γ : S → List Sl} {K : PySem.W.Frag} {α β γ ι : Type} {R Ra : α → Pd} {Rb : β → Pd} {Rc : γ → Pd} {e a b c : Expr} {pos p : Pos} {x : Str} {idn T : String}
variable {m ma : S → (α → S → Prop) → Prop} {mb : S → (β → S → Prop) → Prop}

/-! ### built-ins of one argument -/
def B1 (r : List V → Hp → VK → Prop) (Ra : α → Pd) (Rc : γ → Pd) (co : α → Prop) (f : α → γ) : Prop := ∀ x v F H (Q : VK), (Ra x).p v F → Same F H → co x → (∀ u, (Rc (f x)).p u F → Q u H) → r [v] H Q
def B1U (r : List V → Hp → VK → Prop) (Ra : α → Pd) (Rc : γ → Pd) (f : α → γ) : Prop := ∀ x v F H (Q : VK), (Ra x).p v F → Same F H → (∀ u, (Rc (f x)).p u F → Q u H) → r [v] H Q
def B1N (r : List V → Hp → VK → Prop) (Ra : α → Pd) (Rc : γ → Pd) (f : α → List γ) : Prop := ∀ x v F H (Q : VK), (Ra x).p v F → Same F H → (∀ p vs, H p = none → AllR Rc (f x) vs F → Q (.ref p) (upd H p (.lst vs))) → r [v] H Q
/-- a tuple, new or not -/
def B1T (K : PySem.W.Frag) (r : List V → Hp → VK → Prop) (Ra : α → Pd) (Rc : γ → Pd) (f : α → List γ) : Prop := ∀ x v F H (Q : VK), (Ra x).p v F → Same F H → (∀ p vs, SqT K F p vs → AllR Rc (f x) vs F → Q (.ref p) H) → (∀ p vs, H p = none → AllR Rc (f x) vs F → Q (.ref p) (upd H p (.tup vs))) → r [v] H Q
theorem tcb_v {r : List V → Hp → VK → Prop} {co : α → Prop} {f : α → γ} (h : B1 r Ra Rc co f) {σ : L2.St} {H : Hp} {Q : VK} (q : tE B Γ Rc (fun s K => ma s fun y s1 => co y ∧ K (f y) s1) σ H Q) : tCB r (tCons (tE B Γ Ra ma) tNil) σ H Q := by
  obtain ⟨s, F, K', A, hm, k⟩ := q
  exact ⟨s, F, _, A, hm, fun y s1 v F1 H1 ⟨h0, h1⟩ A1 e1 r1 => h y v F1 H1 Q r1 A1.sub h0 fun u ru => k _ s1 u F1 H1 h1 A1 e1 ru⟩
theorem tcb_u {r : List V → Hp → VK → Prop} {f : α → γ} (h : B1U r Ra Rc f) {σ : L2.St} {H : Hp} {Q : VK} (q : tE B Γ Rc (fun s K => ma s fun y s1 => K (f y) s1) σ H Q) : tCB r (tCons (tE B Γ Ra ma) tNil) σ H Q := by
  obtain ⟨s, F, K', A, hm, k⟩ := q
  exact ⟨s, F, _, A, hm, fun y s1 v F1 H1 h1 A1 e1 r1 => h y v F1 H1 Q r1 A1.sub fun u ru => k _ s1 u F1 H1 h1 A1 e1 ru⟩
theorem tcb_n {r : List V → Hp → VK → Prop} {f : α → List γ} (h : B1N r Ra Rc f) {σ : L2.St} {H : Hp} {Q : VK} (q : tN B Γ Rc (fun s K => ma s fun y s1 => K (f y) s1) σ H Q) : tCB r (tCons (tE B Γ Ra ma) tNil) σ H Q := by
  obtain ⟨s, F, K', A, hm, k⟩ := q
  exact ⟨s, F, _, A, hm, fun y s1 v F1 H1 h1 A1 e1 r1 => h y v F1 H1 Q r1 A1.sub fun p vs np av => by
    have fr := A1.fresh np
    exact k _ s1 p vs F1 _ h1 (A1.layH np) e1 upd_same fr.1 fr.2 (A1.notOwn np) av⟩
theorem tcb_t {r : List V → Hp → VK → Prop} {f : α → List γ} (h : B1T K r Ra Rc f) {σ : L2.St} {H : Hp} {Q : VK} (q : tE B Γ (RTup K Rc) (fun s K => ma s fun y s1 => K (f y) s1) σ H Q) : tCB r (tCons (tE B Γ Ra ma) tNil) σ H Q := by
  obtain ⟨s, F, K', A, hm, k⟩ := q
  refine ⟨s, F, _, A, hm, fun y s1 v F1 H1 h1 A1 e1 r1 => h y v F1 H1 Q r1 A1.sub (fun p vs ht av => k _ s1 _ F1 H1 h1 A1 e1 ⟨p, vs, rfl, ht, av⟩) fun p vs np av => ?_⟩
  obtain ⟨A2, e2⟩ := A1.lay (o := .tup vs) np
  exact k _ s1 _ _ _ h1 A2 (e1.trans e2) ⟨p, vs, rfl, SqT.of upd_same, av.mono e2⟩
/-- the place of a call of a built-in function, of a built-in type -/
structure BP (X : Cx) (x : Str) (u : Value) : Prop where
  g : Gl X x
  m : X.mg x = none
  v : bootBuiltins x = some u
  n : x ≠ "__name__"
  d : (x == ("__debug__" : Str)) = false
theorem pe_bf {r : List V → Hp → VK → Prop} {t : TA} (P : BP X x (.builtin idn)) (hc : CallR X (.builtin idn) r) (ha : PA X [a] t) (he : starEach [a] X.env = (false, eval a X.env) :: starEach [] X.env := by rfl) (hpl : (backTo pos (starEach [] X.env)).any (·.1) = false := by rfl) :
    PE X (.Call (.Name x p) [a] [] pos) (tCB r t) := pe_callB hc P.g P.m P.v ha P.n P.d he hpl
theorem pe_bt {r : List V → Hp → VK → Prop} {t : TA} (P : BP X x (.type T)) (hc : CallR X (.type T) r) (ha : PA X [a] t) (he : starEach [a] X.env = (false, eval a X.env) :: starEach [] X.env := by rfl) (hpl : (backTo pos (starEach [] X.env)).any (·.1) = false := by rfl) :
    PE X (.Call (.Name x p) [a] [] pos) (tCB r t) := pe_callTy hc P.g P.m P.v ha P.n P.d he hpl
theorem bp_len (hm : X.mg "len" = none) (hg : Gl X "len" := by rfl) : BP X "len" (.builtin "len") := ⟨hg, hm, PySem.boot_len, by decide, by decide⟩
theorem bp_abs (hm : X.mg "abs" = none) (hg : Gl X "abs" := by rfl) : BP X "abs" (.builtin "abs") := ⟨hg, hm, by decide +kernel, by decide, by decide⟩
theorem bp_all (hm : X.mg "all" = none) (hg : Gl X "all" := by rfl) : BP X "all" (.builtin "all") := ⟨hg, hm, by decide +kernel, by decide, by decide⟩
theorem bp_any (hm : X.mg "any" = none) (hg : Gl X "any" := by rfl) : BP X "any" (.builtin "any") := ⟨hg, hm, by decide +kernel, by decide, by decide⟩
theorem bp_sum (hm : X.mg "sum" = none) (hg : Gl X "sum" := by rfl) : BP X "sum" (.builtin "sum") := ⟨hg, hm, by decide +kernel, by decide, by decide⟩
theorem bp_sorted (hm : X.mg "sorted" = none) (hg : Gl X "sorted" := by rfl) : BP X "sorted" (.builtin "sorted") := ⟨hg, hm, by decide +kernel, by decide, by decide⟩
theorem bp_min (hm : X.mg "min" = none) (hg : Gl X "min" := by rfl) : BP X "min" (.builtin "min") := ⟨hg, hm, by decide +kernel, by decide, by decide⟩
theorem bp_max (hm : X.mg "max" = none) (hg : Gl X "max" := by rfl) : BP X "max" (.builtin "max") := ⟨hg, hm, by decide +kernel, by decide, by decide⟩
theorem bp_isi (hm : X.mg "isinstance" = none) (hg : Gl X "isinstance" := by rfl) : BP X "isinstance" (.builtin "isinstance") := ⟨hg, hm, by decide +kernel, by decide, by decide⟩
theorem bp_list (hm : X.mg "list" = none) (hg : Gl X "list" := by rfl) : BP X "list" (.type "list") := ⟨hg, hm, by decide +kernel, by decide, by decide⟩
theorem bp_tuple (hm : X.mg "tuple" = none) (hg : Gl X "tuple" := by rfl) : BP X "tuple" (.type "tuple") := ⟨hg, hm, by decide +kernel, by decide, by decide⟩
theorem bp_int (hm : X.mg "int" = none) (hg : Gl X "int" := by rfl) : BP X "int" (.type "int") := ⟨hg, hm, by decide +kernel, by decide, by decide⟩
theorem bp_bool (hm : X.mg "bool" = none) (hg : Gl X "bool" := by rfl) : BP X "bool" (.type "bool") := ⟨hg, hm, by decide +kernel, by decide, by decide⟩
theorem bp_str (hm : X.mg "str" = none) (hg : Gl X "str" := by rfl) : BP X "str" (.type "str") := ⟨hg, hm, by decide +kernel, by decide, by decide⟩
/-- what has a length -/
def Lens (K : PySem.W.Frag) (R : α → Pd) (n : α → Nat) : Prop := ∀ x v F, (R x).p v F → ∃ q ys, v = .ref q ∧ (SqL K F q ys ∨ SqT K F q ys) ∧ ys.length = n x
theorem lens_list : Lens K (RList K R) List.length := fun x v F ⟨a, vs, h1, h2, h3⟩ => ⟨a, vs, h1, .inl h2, h3.len⟩
theorem lens_tup : Lens K (RTup K R) List.length := fun x v F ⟨a, vs, h1, h2, h3⟩ => ⟨a, vs, h1, .inr h2, h3.len⟩
theorem te_len {n : α → Nat} (P : BP X "len" (.builtin "len")) (hl : Lens K R n) (ha : PE X a (tE B Γ R ma)) (hK : X.K = K := by rfl) (hs : starEach [a] X.env = (false, eval a X.env) :: starEach [] X.env := by rfl) (hpl : (backTo pos (starEach [] X.env)).any (·.1) = false := by rfl) :
    PE X (.Call (.Name "len" p) [a] [] pos) (tE B Γ RInt (fun s K => ma s fun y s1 => K (n y : Int) s1)) := by
  subst hK
  refine pe_imp (pe_bf P call_len_seq (pa_cons ha pa_nil hs) hs hpl) fun _ _ _ q => tcb_u (f := fun y => (n y : Int)) (fun x v F H Q hx e q => ?_) q
  obtain ⟨w, ys, h1, h2, h3⟩ := hl x v F hx
  subst h1
  exact ⟨w, ys, rfl, h2.imp (seqL_mono e) (seqT_mono e), by rw [h3]; exact q _ rfl⟩
theorem te_lenS {ma : S → (Str → S → Prop) → Prop} (P : BP X "len" (.builtin "len")) (ha : PE X a (tE B Γ RStr ma)) (hs : starEach [a] X.env = (false, eval a X.env) :: starEach [] X.env := by rfl) (hpl : (backTo pos (starEach [] X.env)).any (·.1) = false := by rfl) :
    PE X (.Call (.Name "len" p) [a] [] pos) (tE B Γ RInt (fun s K => ma s fun y s1 => y.length ≤ sizeLine ∧ K (y.length : Int) s1)) := by
  refine pe_imp (pe_bf P call_len_str (pa_cons ha pa_nil hs) hs hpl) fun _ _ _ q => tcb_v (co := fun y : Str => y.length ≤ sizeLine) (f := fun y : Str => (y.length : Int)) (fun x v F H Q hx e hc q => ?_) q
  exact ⟨x, by rw [show v = V.str x from hx], hc, q _ rfl⟩
theorem te_abs {ma : S → (Int → S → Prop) → Prop} (P : BP X "abs" (.builtin "abs")) (ha : PE X a (tE B Γ RInt ma)) (hs : starEach [a] X.env = (false, eval a X.env) :: starEach [] X.env := by rfl) (hpl : (backTo pos (starEach [] X.env)).any (·.1) = false := by rfl) :
    PE X (.Call (.Name "abs" p) [a] [] pos) (tE B Γ RInt (fun s K => ma s fun y s1 => K (y.natAbs : Int) s1)) := by
  refine pe_imp (pe_bf P call_abs (pa_cons ha pa_nil hs) hs hpl) fun _ _ _ q => tcb_u (f := fun y : Int => (y.natAbs : Int)) (fun x v F H Q hx e q => ⟨x, by rw [show v = V.int x from hx], ?_⟩) q
  have : (if x < 0 then -x else x) = (x.natAbs : Int) := by split <;> omega
  rw [this]
  exact q _ rfl
theorem te_toint {ma : S → (Int → S → Prop) → Prop} (P : BP X "int" (.type "int")) (ha : PE X a (tE B Γ RInt ma)) (hs : starEach [a] X.env = (false, eval a X.env) :: starEach [] X.env := by rfl) (hpl : (backTo pos (starEach [] X.env)).any (·.1) = false := by rfl) :
    PE X (.Call (.Name "int" p) [a] [] pos) (tE B Γ RInt (fun s K => ma s fun y s1 => K y s1)) :=
  pe_imp (pe_bt P call_int1 (pa_cons ha pa_nil hs) hs hpl) fun _ _ _ q => tcb_u (f := fun y : Int => y) (fun x v F H Q hx e q => .inl ⟨x, by rw [show v = V.int x from hx], q _ rfl⟩) q
theorem te_bint {ma : S → (Bool → S → Prop) → Prop} (P : BP X "int" (.type "int")) (ha : PE X a (tE B Γ RBool ma)) (hs : starEach [a] X.env = (false, eval a X.env) :: starEach [] X.env := by rfl) (hpl : (backTo pos (starEach [] X.env)).any (·.1) = false := by rfl) :
    PE X (.Call (.Name "int" p) [a] [] pos) (tE B Γ RInt (fun s K => ma s fun y s1 => K (if y then 1 else 0) s1)) :=
  pe_imp (pe_bt P call_int1 (pa_cons ha pa_nil hs) hs hpl) fun _ _ _ q => tcb_u (f := fun y : Bool => if y then (1 : Int) else 0) (fun x v F H Q hx e q => .inr ⟨x, by rw [show v = V.bl x from hx], q _ rfl⟩) q
theorem tn_tolist {ma : S → (List α → S → Prop) → Prop} (P : BP X "list" (.type "list")) (ha : PE X a (tE B Γ (RList K R) ma)) (hK : X.K = K := by rfl) (hs : starEach [a] X.env = (false, eval a X.env) :: starEach [] X.env := by rfl) (hpl : (backTo pos (starEach [] X.env)).any (·.1) = false := by rfl) :
    PE X (.Call (.Name "list" p) [a] [] pos) (tN B Γ R (fun s K => ma s fun y s1 => K y s1)) := by
  subst hK
  exact pe_imp (pe_bt P call_list_of (pa_cons ha pa_nil hs) hs hpl) fun _ _ _ q => tcb_n (f := fun y : List α => y) (fun x v F H Q hx e q => by
    obtain ⟨w, vs, h1, h2, h3⟩ := hx
    subst h1
    exact ⟨w, vs, rfl, .inl (seqL_mono e h2), fun l nl => q l vs nl h3⟩) q
theorem tn_tupList {ma : S → (List α → S → Prop) → Prop} (P : BP X "list" (.type "list")) (ha : PE X a (tE B Γ (RTup K R) ma)) (hK : X.K = K := by rfl) (hs : starEach [a] X.env = (false, eval a X.env) :: starEach [] X.env := by rfl) (hpl : (backTo pos (starEach [] X.env)).any (·.1) = false := by rfl) :
    PE X (.Call (.Name "list" p) [a] [] pos) (tN B Γ R (fun s K => ma s fun y s1 => K y s1)) := by
  subst hK
  exact pe_imp (pe_bt P call_list_of (pa_cons ha pa_nil hs) hs hpl) fun _ _ _ q => tcb_n (f := fun y : List α => y) (fun x v F H Q hx e q => by
    obtain ⟨w, vs, h1, h2, h3⟩ := hx
    subst h1
    exact ⟨w, vs, rfl, .inr (seqT_mono e h2), fun l nl => q l vs nl h3⟩) q
theorem te_tuple_l {ma : S → (List α → S → Prop) → Prop} (P : BP X "tuple" (.type "tuple")) (ha : PE X a (tE B Γ (RList K R) ma)) (hK : X.K = K := by rfl) (hs : starEach [a] X.env = (false, eval a X.env) :: starEach [] X.env := by rfl) (hpl : (backTo pos (starEach [] X.env)).any (·.1) = false := by rfl) :
    PE X (.Call (.Name "tuple" p) [a] [] pos) (tE B Γ (RTup K R) (fun s K => ma s fun y s1 => K y s1)) := by
  subst hK
  exact pe_imp (pe_bt P call_tuple_of (pa_cons ha pa_nil hs) hs hpl) fun _ _ _ q => tcb_t (f := fun y : List α => y) (fun x v F H Q hx e _ q => by
    obtain ⟨w, vs, h1, h2, h3⟩ := hx
    subst h1
    exact ⟨w, vs, rfl, .inl ⟨seqL_mono e h2, fun l nl => q l vs nl h3⟩⟩) q
theorem te_tuple_t {ma : S → (List α → S → Prop) → Prop} (P : BP X "tuple" (.type "tuple")) (ha : PE X a (tE B Γ (RTup K R) ma)) (hK : X.K = K := by rfl) (hs : starEach [a] X.env = (false, eval a X.env) :: starEach [] X.env := by rfl) (hpl : (backTo pos (starEach [] X.env)).any (·.1) = false := by rfl) :
    PE X (.Call (.Name "tuple" p) [a] [] pos) (tE B Γ (RTup K R) (fun s K => ma s fun y s1 => K y s1)) := by
  subst hK
  exact pe_imp (pe_bt P call_tuple_of (pa_cons ha pa_nil hs) hs hpl) fun _ _ _ q => tcb_t (f := fun y : List α => y) (fun x v F H Q hx e q _ => by
    obtain ⟨w, vs, h1, h2, h3⟩ := hx
    subst h1
    exact ⟨w, vs, rfl, .inr ⟨seqT_mono e h2, q w vs h2 h3⟩⟩) q
theorem te_all {ma : S → (List Bool → S → Prop) → Prop} (P : BP X "all" (.builtin "all")) (ha : PE X a (tE B Γ (RList K RBool) ma)) (hK : X.K = K := by rfl) (hc : X.calm = true := by rfl) (hs : starEach [a] X.env = (false, eval a X.env) :: starEach [] X.env := by rfl) (hpl : (backTo pos (starEach [] X.env)).any (·.1) = false := by rfl) :
    PE X (.Call (.Name "all" p) [a] [] pos) (tE B Γ RBool (fun s K => ma s fun y s1 => K (y.all id) s1)) := by
  subst hK
  exact pe_imp (pe_bf P (cr_all hc) (pa_cons ha pa_nil hs) hs hpl) fun _ _ _ q => tcb_u (f := fun y : List Bool => y.all id) (fun x v F H Q hx e q => by
    obtain ⟨w, vs, h1, h2, h3⟩ := hx
    subst h1
    have z := AllR.bools.mp h3
    subst z
    exact ⟨w, x, rfl, seqL_mono e h2, q _ rfl⟩) q
theorem te_any {ma : S → (List Bool → S → Prop) → Prop} (P : BP X "any" (.builtin "any")) (ha : PE X a (tE B Γ (RList K RBool) ma)) (hK : X.K = K := by rfl) (hc : X.calm = true := by rfl) (hs : starEach [a] X.env = (false, eval a X.env) :: starEach [] X.env := by rfl) (hpl : (backTo pos (starEach [] X.env)).any (·.1) = false := by rfl) :
    PE X (.Call (.Name "any" p) [a] [] pos) (tE B Γ RBool (fun s K => ma s fun y s1 => K (y.any id) s1)) := by
  subst hK
  exact pe_imp (pe_bf P (cr_any hc) (pa_cons ha pa_nil hs) hs hpl) fun _ _ _ q => tcb_u (f := fun y : List Bool => y.any id) (fun x v F H Q hx e q => by
    obtain ⟨w, vs, h1, h2, h3⟩ := hx
    subst h1
    have z := AllR.bools.mp h3
    subst z
    exact ⟨w, x, rfl, seqL_mono e h2, q _ rfl⟩) q
theorem te_sum {ma : S → (List Int → S → Prop) → Prop} (P : BP X "sum" (.builtin "sum")) (ha : PE X a (tE B Γ (RList K RInt) ma)) (hK : X.K = K := by rfl) (hc : X.calm = true := by rfl) (hs : starEach [a] X.env = (false, eval a X.env) :: starEach [] X.env := by rfl) (hpl : (backTo pos (starEach [] X.env)).any (·.1) = false := by rfl) :
    PE X (.Call (.Name "sum" p) [a] [] pos) (tE B Γ RInt (fun s K => ma s fun y s1 => K y.sum s1)) := by
  subst hK
  exact pe_imp (pe_bf P (cr_sum hc) (pa_cons ha pa_nil hs) hs hpl) fun _ _ _ q => tcb_u (f := fun y : List Int => y.sum) (fun x v F H Q hx e q => by
    obtain ⟨w, vs, h1, h2, h3⟩ := hx
    subst h1
    have z := AllR.ints.mp h3
    subst z
    exact ⟨w, x, rfl, seqL_mono e h2, q _ rfl⟩) q

/-! ### items, slices -/
/-- xs[i] by places as Python counts them -/
def pyAt {α : Type} (xs : List α) (i : Int) : Option α := atI xs i
theorem allR_at {xs : List α} {vs : List V} {F : Hp} {i : Int} {x : α} (h : AllR R xs vs F) (hx : pyAt xs i = some x) : ∃ v, atI vs i = some v ∧ (R x).p v F := by
  unfold pyAt atI at hx
  cases q : ixN xs.length i with
  | none => rw [q] at hx; cases hx
  | some j =>
    rw [q] at hx
    obtain ⟨v, h1, h2⟩ := h.get (i := j) hx
    refine ⟨v, ?_, h2⟩
    unfold atI
    rw [h.len, q]
    exact h1
theorem te_ixL {ma : S → (List α → S → Prop) → Prop} {mb : S → (Int → S → Prop) → Prop} (ha : PE X a (tE B Γ (RList K R) ma)) (hb : PE X b (tE B Γ RInt mb)) (hs : PlainIx b := by exact fun _ _ => rfl) (hK : X.K = K := by rfl) :
    PE X (.Subscript a b pos) (tE B Γ R (fun s K => ma s fun xs s1 => mb s1 fun i s2 => ∃ x, pyAt xs i = some x ∧ K x s2)) := by
  subst hK
  refine pe_imp (pe_ix ix_list ha hb hs) fun σ H Q ⟨s, F, K', A, hm, k⟩ => ⟨s, F, _, A, hm, fun xs s1 v F1 H1 h1 A1 e1 r1 => ⟨s1, F1, _, A1, h1, fun i s2 w F2 H2 ⟨x, hx, kk⟩ A2 e2 r2 => ?_⟩⟩
  obtain ⟨q, vs, rfl, h2, h3⟩ := r1
  obtain ⟨u, hu, ru⟩ := allR_at (h3.mono e2) hx
  exact ⟨q, vs, i, u, rfl, r2, seqL_mono A2.sub (seqL_mono e2 h2), hu, k x s2 u F2 H2 kk A2 (e1.trans e2) ru⟩
theorem te_ixT {ma : S → (List α → S → Prop) → Prop} {mb : S → (Int → S → Prop) → Prop} (ha : PE X a (tE B Γ (RTup K R) ma)) (hb : PE X b (tE B Γ RInt mb)) (hs : PlainIx b := by exact fun _ _ => rfl) (hK : X.K = K := by rfl) :
    PE X (.Subscript a b pos) (tE B Γ R (fun s K => ma s fun xs s1 => mb s1 fun i s2 => ∃ x, pyAt xs i = some x ∧ K x s2)) := by
  subst hK
  refine pe_imp (pe_ix ix_tup ha hb hs) fun σ H Q ⟨s, F, K', A, hm, k⟩ => ⟨s, F, _, A, hm, fun xs s1 v F1 H1 h1 A1 e1 r1 => ⟨s1, F1, _, A1, h1, fun i s2 w F2 H2 ⟨x, hx, kk⟩ A2 e2 r2 => ?_⟩⟩
  obtain ⟨q, vs, rfl, h2, h3⟩ := r1
  obtain ⟨u, hu, ru⟩ := allR_at (h3.mono e2) hx
  exact ⟨q, vs, i, u, rfl, r2, seqT_mono A2.sub (seqT_mono e2 h2), hu, k x s2 u F2 H2 kk A2 (e1.trans e2) ru⟩
theorem te_fst {ma : S → (α × β → S → Prop) → Prop} (ha : PE X a (tE B Γ (RPair K Ra Rb) ma)) {j pb} (hs : PlainIx (.Constant (.int 0) j pb) := by exact fun _ _ => rfl) (hK : X.K = K := by rfl) :
    PE X (.Subscript a (.Constant (.int 0) j pb) pos) (tE B Γ Ra (fun s K => ma s fun x s1 => K x.1 s1)) := by
  subst hK
  refine pe_imp (pe_ix ix_tup ha pe_int hs) fun σ H Q ⟨s, F, K', A, hm, k⟩ => ⟨s, F, _, A, hm, fun x s1 v F1 H1 h1 A1 e1 r1 => ?_⟩
  obtain ⟨q, v1, v2, rfl, h2, h3, h4⟩ := r1
  exact ⟨q, _, 0, v1, rfl, rfl, seqT_mono A1.sub h2, rfl, k _ s1 v1 F1 H1 h1 A1 e1 h3⟩
theorem te_snd {ma : S → (α × β → S → Prop) → Prop} (ha : PE X a (tE B Γ (RPair K Ra Rb) ma)) {j pb} (hs : PlainIx (.Constant (.int 1) j pb) := by exact fun _ _ => rfl) (hK : X.K = K := by rfl) :
    PE X (.Subscript a (.Constant (.int 1) j pb) pos) (tE B Γ Rb (fun s K => ma s fun x s1 => K x.2 s1)) := by
  subst hK
  refine pe_imp (pe_ix ix_tup ha pe_int hs) fun σ H Q ⟨s, F, K', A, hm, k⟩ => ⟨s, F, _, A, hm, fun x s1 v F1 H1 h1 A1 e1 r1 => ?_⟩
  obtain ⟨q, v1, v2, rfl, h2, h3, h4⟩ := r1
  exact ⟨q, _, 1, v2, rfl, rfl, seqT_mono A1.sub h2, rfl, k _ s1 v2 F1 H1 h1 A1 e1 h4⟩
/-- xs[lo:hi] -/
def pyCut {α : Type} (xs : List α) (lo hi : Option Int) : List α := (xs.drop (HT.sIx xs.length 0 lo)).take (HT.sIx xs.length xs.length hi - HT.sIx xs.length 0 lo)
theorem allR_cut {xs : List α} {vs : List V} {F : Hp} (h : AllR R xs vs F) (lo hi : Option Int) : AllR R (pyCut xs lo hi) (cutV vs lo hi) F := by
  unfold pyCut cutV
  rw [h.len]
  exact (h.drop _).take _
variable {mo mo' : S → (Option Int → S → Prop) → Prop} {lo hi : Option Expr} {p2 : Pos}
theorem to_none : PO X none (tO B Γ (fun s K => K none s)) := po_imp po_none fun σ H Q ⟨s, F, K', A, hm, k⟩ => k none s F H hm A (Same.refl F)
theorem to_some {ma : S → (Int → S → Prop) → Prop} (h : PE X e (tE B Γ RInt ma)) : PO X (some e) (tO B Γ (fun s K => ma s fun i s1 => K (some i) s1)) :=
  po_imp (po_some h) fun σ H Q ⟨s, F, K', A, hm, k⟩ => ⟨s, F, _, A, hm, fun i s1 v F1 H1 h1 A1 e1 r1 => ⟨i, r1, k (some i) s1 F1 H1 h1 A1 e1⟩⟩
theorem tn_cut {ma : S → (List α → S → Prop) → Prop} (ha : PE X a (tE B Γ (RList K R) ma)) (hl : PO X lo (tO B Γ mo)) (hh : PO X hi (tO B Γ mo')) (hK : X.K = K := by rfl) :
    PE X (.Subscript a (.Slice lo hi none p2) pos) (tN B Γ R (fun s K => ma s fun xs s1 => mo s1 fun l s2 => mo' s2 fun h s3 => K (pyCut xs l h) s3)) := by
  subst hK
  refine pe_imp (pe_slice sl_list ha hl hh) fun σ H Q ⟨s, F, K', A, hm, k⟩ => ⟨s, F, _, A, hm, fun xs s1 v F1 H1 h1 A1 e1 r1 => ⟨s1, F1, _, A1, h1, fun l s2 F2 H2 h2 A2 e2 => ⟨s2, F2, _, A2, h2, fun u s3 F3 H3 h3 A3 e3 => ?_⟩⟩⟩
  obtain ⟨q, vs, rfl, hq, av⟩ := r1
  refine ⟨q, vs, rfl, seqL_mono A3.sub (seqL_mono e3 (seqL_mono e2 hq)), fun p np => ?_⟩
  have fr := A3.fresh np
  exact k _ s3 p _ F3 _ h3 (A3.layH np) ((e1.trans e2).trans e3) upd_same fr.1 fr.2 (A3.notOwn np) (allR_cut ((av.mono e2).mono e3) l u)
theorem te_cutT {ma : S → (List α → S → Prop) → Prop} (ha : PE X a (tE B Γ (RTup K R) ma)) (hl : PO X lo (tO B Γ mo)) (hh : PO X hi (tO B Γ mo')) (hK : X.K = K := by rfl) :
    PE X (.Subscript a (.Slice lo hi none p2) pos) (tE B Γ (RTup K R) (fun s K => ma s fun xs s1 => mo s1 fun l s2 => mo' s2 fun h s3 => K (pyCut xs l h) s3)) := by
  subst hK
  refine pe_imp (pe_slice sl_tupA ha hl hh) fun σ H Q ⟨s, F, K', A, hm, k⟩ => ⟨s, F, _, A, hm, fun xs s1 v F1 H1 h1 A1 e1 r1 => ⟨s1, F1, _, A1, h1, fun l s2 F2 H2 h2 A2 e2 => ⟨s2, F2, _, A2, h2, fun u s3 F3 H3 h3 A3 e3 => ?_⟩⟩⟩
  obtain ⟨q, vs, rfl, hq, av⟩ := r1
  have hq3 := seqT_mono e3 (seqT_mono e2 hq)
  have av3 := (av.mono e2).mono e3
  refine ⟨q, vs, rfl, seqT_mono A3.sub hq3, fun hw => ?_, fun _ p np => ?_⟩
  · refine k _ s3 _ F3 H3 h3 A3 ((e1.trans e2).trans e3) ⟨q, vs, rfl, hq3, ?_⟩
    have := allR_cut av3 l u
    unfold cutV at this
    rw [hw.1, hw.2, List.drop_zero, Nat.sub_zero, List.take_length] at this
    exact this
  · obtain ⟨A4, e4⟩ := A3.lay (o := .tup (cutV vs l u)) np
    exact k _ s3 _ _ _ h3 A4 (((e1.trans e2).trans e3).trans e4) ⟨p, _, rfl, SqT.of upd_same, (allR_cut av3 l u).mono e4⟩
theorem tn_rev {ma : S → (List α → S → Prop) → Prop} {k1 p1 p3} (ha : PE X a (tE B Γ (RList K R) ma)) (hK : X.K = K := by rfl) :
    PE X (.Subscript a (.Slice none none (some (.UnaryOp .USub (.Constant (.int 1) k1 p1) p2)) p3) pos) (tN B Γ R (fun s K => ma s fun xs s1 => K xs.reverse s1)) := by
  subst hK
  refine pe_imp (pe_revL ha) fun σ H Q ⟨s, F, K', A, hm, k⟩ => ⟨s, F, _, A, hm, fun xs s1 v F1 H1 h1 A1 e1 r1 => ?_⟩
  obtain ⟨q, vs, rfl, hq, av⟩ := r1
  refine ⟨q, vs, rfl, seqL_mono A1.sub hq, fun p np => ?_⟩
  have fr := A1.fresh np
  exact k _ s1 p _ F1 _ h1 (A1.layH np) e1 upd_same fr.1 fr.2 (A1.notOwn np) av.reverse

/-! ### put behind one another, so many times -/
theorem tn_cat {ma mb : S → (List α → S → Prop) → Prop} (ha : PE X a (tE B Γ (RLst R) ma)) (hb : PE X b (tE B Γ (RLst R) mb)) :
    PE X (.BinOp a .Add b pos) (tN B Γ R (fun s K => ma s fun x s1 => mb s1 fun y s2 => x.length + y.length ≤ 1000000 ∧ K (x ++ y) s2)) :=
  tn_op (Ra := RLst R) (Rb := RLst R) (Rc := R) (f := fun x y => x ++ y) (co := fun x y : List α => x.length + y.length ≤ 1000000) op_cat (fun x y v w F H Q ⟨q1, vs, h1, h2, h3⟩ ⟨q2, ws, k1, k2, k3⟩ e hc q => by
    subst h1; subst k1
    exact ⟨q1, q2, vs, ws, rfl, rfl, e _ _ h2, e _ _ k2, by rw [h3.len, k3.len]; exact smallLen hc, fun p np => q p _ np (h3.append k3)⟩) ha hb
theorem te_catT {ma mb : S → (List α → S → Prop) → Prop} (ha : PE X a (tE B Γ (RTup K R) ma)) (hb : PE X b (tE B Γ (RTup K R) mb)) (hK : X.K = K := by rfl) :
    PE X (.BinOp a .Add b pos) (tE B Γ (RTup K R) (fun s K => ma s fun x s1 => mb s1 fun y s2 => x.length + y.length ≤ 1000000 ∧ K (x ++ y) s2)) := by
  subst hK
  refine pe_imp (pe_op op_catA ha hb) fun σ H Q ⟨s, F, K', A, hm, k⟩ => ⟨s, F, _, A, hm, fun xs s1 v F1 H1 h1 A1 e1 r1 => ⟨s1, F1, _, A1, h1, fun ys s2 w F2 H2 ⟨hc, h2⟩ A2 e2 r2 => ?_⟩⟩
  obtain ⟨q1, vs, rfl, hq, av⟩ := r1
  obtain ⟨q2, ws, rfl, hq2, aw⟩ := r2
  have hq := seqT_mono e2 hq
  have av := av.mono e2
  have ac := av.append aw
  refine ⟨q1, q2, vs, ws, rfl, rfl, seqT_mono A2.sub hq, seqT_mono A2.sub hq2, by rw [av.len, aw.len]; exact smallLen hc, fun z => ?_, fun _ z => ?_, fun _ _ p np => ?_⟩
  · subst z
    exact k _ s2 _ F2 H2 h2 A2 (e1.trans e2) ⟨q2, ws, rfl, hq2, ac⟩
  · subst z
    rw [List.append_nil] at ac
    exact k _ s2 _ F2 H2 h2 A2 (e1.trans e2) ⟨q1, vs, rfl, hq, ac⟩
  · obtain ⟨A3, e3⟩ := A2.lay (o := .tup (vs ++ ws)) np
    exact k _ s2 _ _ _ h2 A3 ((e1.trans e2).trans e3) ⟨p, _, rfl, SqT.of upd_same, ac.mono e3⟩
def pyRep {α : Type} (xs : List α) (k : Int) : List α := (List.replicate k.toNat xs).flatten
theorem tn_rep {ma : S → (List α → S → Prop) → Prop} {mb : S → (Int → S → Prop) → Prop} (ha : PE X a (tE B Γ (RLst R) ma)) (hb : PE X b (tE B Γ RInt mb)) :
    PE X (.BinOp a .Mult b pos) (tN B Γ R (fun s K => ma s fun x s1 => mb s1 fun y s2 => (-(2 ^ 63) ≤ y ∧ y < 2 ^ 63 ∧ x.length * y.toNat ≤ 1000000) ∧ K (pyRep x y) s2)) :=
  tn_op (Ra := RLst R) (Rb := RInt) (Rc := R) (f := fun x y => pyRep x y) (co := fun (x : List α) (y : Int) => -(2 ^ 63) ≤ y ∧ y < 2 ^ 63 ∧ x.length * y.toNat ≤ 1000000) op_rep (fun x y v w F H Q ⟨q1, vs, h1, h2, h3⟩ hy e hc q => by
    subst h1
    have hy : w = V.int y := hy
    subst hy
    exact ⟨q1, y, vs, rfl, rfl, e _ _ h2, hc.1, hc.2.1, by rw [h3.len]; exact smallLen hc.2.2, fun p np => q p _ np (h3.rep _)⟩) ha hb
end
end TL
namespace TL
open PySem L2

/-! ### the mirrors of loops -/
def mMap {α β : Type} : List α → (α → (β → Prop) → Prop) → (List β → Prop) → Prop
  | [], _, K => K []
  | x :: xs, f, K => f x fun y => mMap xs f fun ys => K (y :: ys)
def mMapIf {α β : Type} : List α → (α → (Bool → Prop) → Prop) → (α → (β → Prop) → Prop) → (List β → Prop) → Prop
  | [], _, _, K => K []
  | x :: xs, t, f, K => t x fun b => if b = true then f x fun y => mMapIf xs t f fun ys => K (y :: ys) else mMapIf xs t f K
def mFor {α S : Type} : List α → (α → S → (S → Prop) → Prop) → S → (S → Prop) → Prop
  | [], _, s, K => K s
  | x :: xs, f, s, K => f x s fun s' => mFor xs f s' K
def mWhile {S : Type} (t : S → (Bool → S → Prop) → Prop) (f : S → (S → Prop) → Prop) (s : S) (K : S → Prop) : Prop :=
  ∃ W : Nat → S → Prop, (∃ n, W n s) ∧ ∀ n s, W n s → t s fun b s1 => if b = true then f s1 fun s2 => ∃ n', n' < n ∧ W n' s2 else K s1
def mIf {S : Type} (b : Bool) (f g : (S → Prop) → Prop) (K : S → Prop) : Prop := if b = true then f K else g K

theorem mMapIf_true {α β : Type} {f : α → (β → Prop) → Prop} : ∀ {xs : List α} {K : List β → Prop}, mMap xs f K = mMapIf xs (fun _ K => K true) f K
  | [], _ => rfl
  | x :: xs, K => by
    show f x (fun y => mMap xs f fun ys => K (y :: ys)) = (if true = true then f x (fun y => mMapIf xs (fun _ K => K true) f fun ys => K (y :: ys)) else mMapIf xs (fun _ K => K true) f K)
    rw [if_pos rfl]
    congr 1
    funext y
    exact mMapIf_true

/-! ### what is walked -/
def Src {α : Type} (J : It) (F : Hp) (R : α → Pd) (xs : List α) : Prop := ∀ F1 H1, Same F F1 → Same F1 H1 →
  (∀ i, xs.length ≤ i → J.stop i H1) ∧ (∀ i, i < xs.length → J.go i H1) ∧
  ∀ i x v H2, xs[i]? = some x → J.yld i H1 v H2 → ∃ F2, Same F1 F2 ∧ Same H1 H2 ∧ Same F2 H2 ∧ Nw F1 H1 F2 ∧ (R x).p v F2
def tI {S α : Type} (B : Bs) (Γ : S → List Sl) (R : α → Pd) (m : S → (List α → S → Prop) → Prop) : TI := fun σ H Rk =>
  ∃ s F K, At B (Γ s) σ F H ∧ m s K ∧ ∀ xs s' J F' H', K xs s' → At B (Γ s') σ F' H' → Same F F' → Src J F' R xs → Rk J H'
theorem src_list {K : PySem.W.Frag} {α : Type} {R : α → Pd} {F : Hp} {a : Addr} {vs : List V} {xs : List α} (h : SqL K F a vs) (av : AllR R xs vs F) : Src (Itl K a) F R xs := fun F1 H1 e1 e2 => by
  have h1 : SqL K H1 a vs := seqL_mono e2 (seqL_mono e1 h)
  refine ⟨fun i hi => ⟨vs, h1, by rw [av.len]; exact hi⟩, fun i hi => ?_, fun i x v H2 hx hy => ?_⟩
  · obtain ⟨v, hv, _⟩ := av.get (List.getElem?_eq_getElem hi)
    exact ⟨vs, v, h1, hv⟩
  · obtain ⟨w, hw, rw'⟩ := av.get hx
    obtain ⟨e, y⟩ := hy
    subst e
    have := (y vs h1).symm.trans hw
    cases this
    exact ⟨F1, Same.refl _, Same.refl _, e2, Nw.refl, (R x).mono _ _ _ e1 rw'⟩
theorem src_tup {K : PySem.W.Frag} {α : Type} {R : α → Pd} {F : Hp} {a : Addr} {vs : List V} {xs : List α} (h : SqT K F a vs) (av : AllR R xs vs F) : Src (Itt K a) F R xs := fun F1 H1 e1 e2 => by
  have h1 : SqT K H1 a vs := seqT_mono e2 (seqT_mono e1 h)
  refine ⟨fun i hi => ⟨vs, h1, by rw [av.len]; exact hi⟩, fun i hi => ?_, fun i x v H2 hx hy => ?_⟩
  · obtain ⟨v, hv, _⟩ := av.get (List.getElem?_eq_getElem hi)
    exact ⟨vs, v, h1, hv⟩
  · obtain ⟨w, hw, rw'⟩ := av.get hx
    obtain ⟨e, y⟩ := hy
    subst e
    have := (y vs h1).symm.trans hw
    cases this
    exact ⟨F1, Same.refl _, Same.refl _, e2, Nw.refl, (R x).mono _ _ _ e1 rw'⟩
/-- lo, lo + 1, .. below hi -/
def rangeL (lo hi : Int) : List Int := (List.range (hi - lo).toNat).map fun i => lo + (i : Nat)
theorem rangeL_len (lo hi : Int) : (rangeL lo hi).length = (hi - lo).toNat := by unfold rangeL; rw [List.length_map, List.length_range]
theorem src_range {F : Hp} {lo hi : Int} {n : Nat} (hn : n = (hi - lo).toNat) : Src (Itr lo n) F RInt (rangeL lo hi) := fun F1 H1 e1 e2 => by
  subst hn
  refine ⟨fun i hi' => by rw [rangeL_len] at hi'; exact hi', fun i hi' => by rw [rangeL_len] at hi'; exact hi', fun i x v H2 hx hy => ?_⟩
  obtain ⟨e, y⟩ := hy
  subst e
  refine ⟨F1, Same.refl _, Same.refl _, e2, Nw.refl, ?_⟩
  unfold rangeL at hx
  rw [List.getElem?_map] at hx
  cases q : (List.range (hi - lo).toNat)[i]? with
  | none => rw [q] at hx; cases hx
  | some j =>
    rw [q] at hx
    have hj : j = i := by
      obtain ⟨h1, h2⟩ := List.getElem?_eq_some_iff.mp q
      rw [List.getElem_range] at h2
      exact h2.symm
    cases hx
    subst hj
    exact y
theorem zipGet {α β : Type} : ∀ {xs : List α} {ys : List β} {i : Nat} {z : α × β}, (xs.zip ys)[i]? = some z → xs[i]? = some z.1 ∧ ys[i]? = some z.2
  | x :: xs, y :: ys, 0, z, h => by simp at h; subst h; exact ⟨rfl, rfl⟩
  | x :: xs, y :: ys, i + 1, z, h => by
    have := zipGet (i := i) (xs := xs) (ys := ys) (z := z) (by simpa using h)
    simpa using this
  | [], _, i, z, h => by simp at h
  | _ :: _, [], i, z, h => by simp at h
theorem newPair {K : PySem.W.Frag} {α β : Type} {Ra : α → Pd} {Rb : β → Pd} {F1 H1 : Hp} {T : Addr} {x : α} {y : β} {v w : V} (e2 : Same F1 H1) (nT : H1 T = none) (hv : (Ra x).p v F1) (hw : (Rb y).p w F1) :
    ∃ F2, Same F1 F2 ∧ Same H1 (upd H1 T (.tup [v, w])) ∧ Same F2 (upd H1 T (.tup [v, w])) ∧ Nw F1 H1 F2 ∧ (RPair K Ra Rb (x, y)).p (.ref T) F2 := by
  have fT : F1 T = none := by
    cases q : F1 T with
    | none => rfl
    | some o => rw [e2 _ _ q] at nT; cases nT
  refine ⟨upd F1 T (.tup [v, w]), same_upd fT, same_upd nT, fun a u g => ?_, fun a u g => ?_, ⟨T, v, w, rfl, SqT.of upd_same, (Ra x).mono _ _ _ (same_upd fT) hv, (Rb y).mono _ _ _ (same_upd fT) hw⟩⟩
  · by_cases ha : a = T
    · subst ha; rw [upd_same] at g ⊢; exact g
    · rw [upd_ne ha] at g ⊢; exact e2 _ _ g
  · by_cases ha : a = T
    · subst ha; exact .inr nT
    · rw [upd_ne ha] at g; exact .inl g
theorem src_zipT {K : PySem.W.Frag} {α β : Type} {Ra : α → Pd} {Rb : β → Pd} {F : Hp} {a b : Addr} {vs ws : List V} {xs : List α} {ys : List β} (h : SqT K F a vs) (av : AllR Ra xs vs F) (h' : SqT K F b ws) (aw : AllR Rb ys ws F) : Src (RZ.ItzT K a b) F (RPair K Ra Rb) (xs.zip ys) := fun F1 H1 e1 e2 => by
  have h1 : SqT K H1 a vs := seqT_mono e2 (seqT_mono e1 h)
  have h2 : SqT K H1 b ws := seqT_mono e2 (seqT_mono e1 h')
  refine ⟨fun i hi => ⟨vs, ws, h1, h2, ?_⟩, fun i hi => ?_, fun i z v H2 hx hy => ?_⟩
  · rw [List.length_zip] at hi
    rw [av.len, aw.len]; omega
  · rw [List.length_zip] at hi
    obtain ⟨v, hv, _⟩ := av.get (List.getElem?_eq_getElem (show i < xs.length by omega))
    obtain ⟨w, hw, _⟩ := aw.get (List.getElem?_eq_getElem (show i < ys.length by omega))
    exact ⟨vs, ws, v, w, h1, h2, hv, hw⟩
  · obtain ⟨hx1, hx2⟩ := zipGet hx
    obtain ⟨v1, hv, rv⟩ := av.get hx1
    obtain ⟨w1, hw, rw'⟩ := aw.get hx2
    obtain ⟨T, x', y', ev, nT, eH, y1, y2⟩ := hy
    have q1 := (y1 vs h1).symm.trans hv
    have q2 := (y2 ws h2).symm.trans hw
    cases q1; cases q2
    subst ev; subst eH
    exact newPair e2 nT ((Ra _).mono _ _ _ e1 rv) ((Rb _).mono _ _ _ e1 rw')
theorem src_zip {K : PySem.W.Frag} {α β : Type} {Ra : α → Pd} {Rb : β → Pd} {F : Hp} {a b : Addr} {vs ws : List V} {xs : List α} {ys : List β} (h : SqL K F a vs) (av : AllR Ra xs vs F) (h' : SqL K F b ws) (aw : AllR Rb ys ws F) : Src (Itz K a b) F (RPair K Ra Rb) (xs.zip ys) := fun F1 H1 e1 e2 => by
  have h1 : SqL K H1 a vs := seqL_mono e2 (seqL_mono e1 h)
  have h2 : SqL K H1 b ws := seqL_mono e2 (seqL_mono e1 h')
  refine ⟨fun i hi => ⟨vs, ws, h1, h2, ?_⟩, fun i hi => ?_, fun i z v H2 hx hy => ?_⟩
  · rw [List.length_zip] at hi
    rw [av.len, aw.len]; omega
  · rw [List.length_zip] at hi
    obtain ⟨v, hv, _⟩ := av.get (List.getElem?_eq_getElem (show i < xs.length by omega))
    obtain ⟨w, hw, _⟩ := aw.get (List.getElem?_eq_getElem (show i < ys.length by omega))
    exact ⟨vs, ws, v, w, h1, h2, hv, hw⟩
  · obtain ⟨hx1, hx2⟩ := zipGet hx
    obtain ⟨v1, hv, rv⟩ := av.get hx1
    obtain ⟨w1, hw, rw'⟩ := aw.get hx2
    obtain ⟨T, x', y', ev, nT, eH, y1, y2⟩ := hy
    have q1 := (y1 vs h1).symm.trans hv
    have q2 := (y2 ws h2).symm.trans hw
    cases q1; cases q2
    subst ev; subst eH
    exact newPair e2 nT ((Ra _).mono _ _ _ e1 rv) ((Rb _).mono _ _ _ e1 rw')
/-- (0, x), (1, y), .. -/
def enumL {α : Type} (xs : List α) : List (Int × α) := (rangeL 0 xs.length).zip xs
theorem src_enum {K : PySem.W.Frag} {α : Type} {Ra : α → Pd} {F : Hp} {a : Addr} {vs : List V} {xs : List α} (h : SqL K F a vs) (av : AllR Ra xs vs F) : Src (Ite K a) F (RPair K RInt Ra) (enumL xs) := fun F1 H1 e1 e2 => by
  have h1 : SqL K H1 a vs := seqL_mono e2 (seqL_mono e1 h)
  have hl : (enumL xs).length = xs.length := by unfold enumL; rw [List.length_zip, rangeL_len]; omega
  refine ⟨fun i hi => ⟨vs, h1, by rw [av.len, ← hl]; exact hi⟩, fun i hi => ?_, fun i z v H2 hx hy => ?_⟩
  · rw [hl] at hi
    obtain ⟨v, hv, _⟩ := av.get (List.getElem?_eq_getElem hi)
    exact ⟨vs, v, h1, hv⟩
  · obtain ⟨hx1, hx2⟩ := zipGet hx
    obtain ⟨v1, hv, rv⟩ := av.get hx2
    obtain ⟨T, x', ev, nT, eH, y1⟩ := hy
    have q1 := (y1 vs h1).symm.trans hv
    cases q1
    have hz : z.1 = (i : Int) := by
      unfold rangeL at hx1
      rw [List.getElem?_map] at hx1
      cases q : (List.range (((xs.length : Nat) : Int) - 0).toNat)[i]? with
      | none => rw [q] at hx1; cases hx1
      | some j =>
        rw [q] at hx1
        obtain ⟨g1, g2⟩ := List.getElem?_eq_some_iff.mp q
        rw [List.getElem_range] at g2
        have hq : (0 : Int) + (j : Nat) = z.1 := Option.some.inj hx1
        omega
    subst ev; subst eH
    refine newPair e2 nT ?_ ((Ra _).mono _ _ _ e1 rv)
    show V.int _ = V.int _
    rw [hz]

section
variable {X : Cx} {S S' : Type} {B : Bs} {Γ : S → List Sl} {K : PySem.W.Frag} {α β γ ι : Type} {R Ra : α → Pd} {Rb : β → Pd} {Rc : γ → Pd} {e a b c tg : Expr} {pos p : Pos} {x : Str}
variable {m ma : S → (α → S → Prop) → Prop} {mb : S → (β → S → Prop) → Prop}
theorem ti_list {m : S → (List α → S → Prop) → Prop} (h : PE X e (tE B Γ (RList K R) m)) (hK : X.K = K := by rfl) : PI X tg e (tI B Γ R m) := by
  subst hK
  exact pi_imp (pi_list h) fun σ H Rk ⟨s, F, K', A, hm, k⟩ => ⟨s, F, _, A, hm, fun xs s1 v F1 H1 h1 A1 e1 ⟨q, vs, ev, hq, av⟩ => ⟨q, ev, ⟨vs, seqL_mono A1.sub hq⟩, k xs s1 _ F1 H1 h1 A1 e1 (src_list hq av)⟩⟩
theorem ti_tup {m : S → (List α → S → Prop) → Prop} (h : PE X e (tE B Γ (RTup K R) m)) (hK : X.K = K := by rfl) : PI X tg e (tI B Γ R m) := by
  subst hK
  exact pi_imp (pi_tup h) fun σ H Rk ⟨s, F, K', A, hm, k⟩ => ⟨s, F, _, A, hm, fun xs s1 v F1 H1 h1 A1 e1 ⟨q, vs, ev, hq, av⟩ => ⟨q, ev, ⟨vs, seqT_mono A1.sub hq⟩, k xs s1 _ F1 H1 h1 A1 e1 (src_tup hq av)⟩⟩
theorem ti_range1 {ma : S → (Int → S → Prop) → Prop} (hm : X.mg "range" = none) (h : PE X a (tE B Γ RInt ma)) (hg : Gl X "range" := by rfl) (hs : starEach [a] X.env = [(false, eval a X.env)] := by rfl) :
    PI X tg (.Call (.Name "range" p) [a] [] pos) (tI B Γ RInt (fun s K => ma s fun n s1 => (-(2 ^ 62) ≤ n ∧ n < 2 ^ 62) ∧ K (rangeL 0 n) s1)) :=
  pi_imp (pi_range1 hg hm (pa_cons h pa_nil hs) hs) fun σ H Rk ⟨s, F, K', A, hm, k⟩ => ⟨s, F, _, A, hm, fun n s1 v F1 H1 ⟨h0, h1⟩ A1 e1 r1 => by
    have r1 : v = V.int n := r1
    subst r1
    exact ⟨n, rfl, h0.1, h0.2, k _ s1 _ F1 H1 h1 A1 e1 (src_range (by omega))⟩⟩
theorem ti_range2 {ma mb : S → (Int → S → Prop) → Prop} (hm : X.mg "range" = none) (h : PE X a (tE B Γ RInt ma)) (h' : PE X b (tE B Γ RInt mb)) (hg : Gl X "range" := by rfl) (hs : starEach [a, b] X.env = [(false, eval a X.env), (false, eval b X.env)] := by rfl) (hs2 : starEach [b] X.env = [(false, eval b X.env)] := by rfl) :
    PI X tg (.Call (.Name "range" p) [a, b] [] pos) (tI B Γ RInt (fun s K => ma s fun n s1 => mb s1 fun j s2 => (-(2 ^ 62) ≤ n ∧ n < 2 ^ 62 ∧ -(2 ^ 62) ≤ j ∧ j < 2 ^ 62) ∧ K (rangeL n j) s2)) :=
  pi_imp (pi_range2 hg hm (pa_cons h (pa_cons h' pa_nil (by rw [hs2]; rfl)) (by rw [hs, hs2])) hs hs2) fun σ H Rk ⟨s, F, K', A, hm, k⟩ => ⟨s, F, _, A, hm, fun n s1 v F1 H1 h1 A1 e1 r1 => ⟨s1, F1, _, A1, h1, fun j s2 w F2 H2 ⟨h0, h2⟩ A2 e2 r2 => by
    have r1 : v = V.int n := r1
    have r2 : w = V.int j := r2
    subst r1; subst r2
    exact ⟨n, j, rfl, h0, k _ s2 _ F2 H2 h2 A2 (e1.trans e2) (src_range rfl)⟩⟩⟩
theorem ti_enum {ma : S → (List α → S → Prop) → Prop} {elts : List Expr} {kk : Nat} {tpos : Pos} (hm : X.mg "enumerate" = none) (h : PE X a (tE B Γ (RList K R) ma)) (hK : X.K = K := by rfl) (hg : Gl X "enumerate" := by rfl) (hs : starEach [a] X.env = [(false, eval a X.env)] := by rfl) :
    PI X (.Tuple elts kk tpos) (.Call (.Name "enumerate" p) [a] [] pos) (tI B Γ (RPair K RInt R) (fun s K => ma s fun xs s1 => K (enumL xs) s1)) := by
  subst hK
  exact pi_imp (pi_enum hg hm (pa_cons h pa_nil hs) hs) fun σ H Rk ⟨s, F, K', A, hm, k⟩ => ⟨s, F, _, A, hm, fun xs s1 v F1 H1 h1 A1 e1 ⟨q, vs, ev, hq, av⟩ => ⟨q, vs, by rw [ev], seqL_mono A1.sub hq, k _ s1 _ F1 H1 h1 A1 e1 (src_enum hq av)⟩⟩
theorem ti_zip {ma : S → (List α → S → Prop) → Prop} {mb : S → (List β → S → Prop) → Prop} {elts : List Expr} {kk : Nat} {tpos : Pos} (hm : X.mg "zip" = none) (h : PE X a (tE B Γ (RList K Ra) ma)) (h' : PE X b (tE B Γ (RList K Rb) mb)) (hK : X.K = K := by rfl) (hg : Gl X "zip" := by rfl)
    (hs : starEach [a, b] X.env = (false, eval a X.env) :: starEach [b] X.env := by rfl) (hs2 : starEach [b] X.env = (false, eval b X.env) :: starEach [] X.env := by rfl) (hpl : (backTo pos (starEach [b] X.env)).any (·.1) = false := by rfl) :
    PI X (.Tuple elts kk tpos) (.Call (.Name "zip" p) [a, b] [] pos) (tI B Γ (RPair K Ra Rb) (fun s K => ma s fun xs s1 => mb s1 fun ys s2 => K (xs.zip ys) s2)) := by
  subst hK
  exact pi_imp (pi_zip hg hm (pa_cons h (pa_cons h' pa_nil hs2) hs) hs hpl) fun σ H Rk ⟨s, F, K', A, hm, k⟩ => ⟨s, F, _, A, hm, fun xs s1 v F1 H1 h1 A1 e1 ⟨q, vs, ev, hq, av⟩ => ⟨s1, F1, _, A1, h1, fun ys s2 w F2 H2 h2 A2 e2 ⟨q2, ws, ew, hq2, aw⟩ =>
    ⟨q, q2, vs, ws, by rw [ev, ew], seqL_mono A2.sub (seqL_mono e2 hq), seqL_mono A2.sub hq2, k _ s2 _ F2 H2 h2 A2 (e1.trans e2) (src_zip (seqL_mono e2 hq) (av.mono e2) hq2 aw)⟩⟩⟩
theorem ti_zipT {ma : S → (List α → S → Prop) → Prop} {mb : S → (List β → S → Prop) → Prop} {elts : List Expr} {kk : Nat} {tpos : Pos} (hm : X.mg "zip" = none) (h : PE X a (tE B Γ (RTup K Ra) ma)) (h' : PE X b (tE B Γ (RTup K Rb) mb)) (hK : X.K = K := by rfl) (hg : Gl X "zip" := by rfl)
    (hs : starEach [a, b] X.env = (false, eval a X.env) :: starEach [b] X.env := by rfl) (hs2 : starEach [b] X.env = (false, eval b X.env) :: starEach [] X.env := by rfl) (hpl : (backTo pos (starEach [b] X.env)).any (·.1) = false := by rfl) :
    PI X (.Tuple elts kk tpos) (.Call (.Name "zip" p) [a, b] [] pos) (tI B Γ (RPair K Ra Rb) (fun s K => ma s fun xs s1 => mb s1 fun ys s2 => K (xs.zip ys) s2)) := by
  subst hK
  exact pi_imp (RZ.pi_zipA hg hm (pa_cons h (pa_cons h' pa_nil hs2) hs) hs hpl) fun σ H Rk ⟨s, F, K', A, hm, k⟩ => ⟨s, F, _, A, hm, fun xs s1 v F1 H1 h1 A1 e1 ⟨q, vs, ev, hq, av⟩ => ⟨s1, F1, _, A1, h1, fun ys s2 w F2 H2 h2 A2 e2 ⟨q2, ws, ew, hq2, aw⟩ =>
    ⟨q, q2, vs, ws, by rw [ev, ew], .inr ⟨seqT_mono A2.sub (seqT_mono e2 hq), seqT_mono A2.sub hq2, k _ s2 _ F2 H2 h2 A2 (e1.trans e2) (src_zipT (seqT_mono e2 hq) (av.mono e2) hq2 aw)⟩⟩⟩⟩

/-! ### targets -/
structure Tg (g : TG) (R : α → Pd) (js : List Nat) (up : List Sl → α → List Sl) : Prop where
  run : ∀ {B : Bs} {Γ : List Sl} {σ : L2.St} {F H : Hp} {x : α} {v : V} {Q : L2.St → Hp → Prop}, At B Γ σ F H → (R x).p v F → (∀ σ', At B (up Γ x) σ' F H → (∀ vs, (∀ j ∈ js, j ∈ vs) → wipe σ' vs = wipe σ vs) → Q σ' H) → g v σ H Q
theorem wipe_set {σ : L2.St} {j : Nat} {v : Option V} : ∀ {vs : List Nat}, j ∈ vs → wipe (σ.set j v) vs = wipe σ vs
  | w :: vs, h => by
    by_cases hj : j ∈ vs
    · show (wipe (σ.set j v) vs).set w none = (wipe σ vs).set w none
      rw [wipe_set hj]
    · have e : j = w := by
        rcases List.mem_cons.mp h with z | z
        · exact z
        · exact absurd z hj
      subst e
      have go : ∀ (vs : List Nat), j ∉ vs → wipe (σ.set j v) vs = (wipe σ vs).set j v := by
        intro vs
        induction vs with
        | nil => intro _; rfl
        | cons u vs ih =>
          intro hn
          have h1 : j ≠ u := fun z => hn (z ▸ List.mem_cons_self)
          show (wipe (σ.set j v) vs).set u none = ((wipe σ vs).set u none).set j v
          rw [ih fun z => hn (List.mem_cons_of_mem _ z), List.set_comm _ _ h1]
      show (wipe (σ.set j v) vs).set j none = (wipe σ vs).set j none
      rw [go vs hj, List.set_set]
theorem wipe_wipe {σ : L2.St} {ws : List Nat} : ∀ {vs : List Nat}, (∀ j ∈ vs, j ∈ ws) → wipe (wipe σ vs) ws = wipe σ ws
  | [], _ => rfl
  | v :: vs, h => by
    show wipe ((wipe σ vs).set v none) ws = wipe σ ws
    rw [wipe_set (h v List.mem_cons_self), wipe_wipe fun j hj => h j (List.mem_cons_of_mem _ hj)]
theorem tg_name (i : Nat) : Tg (gName i) R [i] (fun Γ x => Γ.set i (.im (R x))) := ⟨fun A hr k => k _ (A.setIm hr) fun vs hv => wipe_set (hv i (by simp))⟩
theorem tg_pair (i j : Nat) : Tg (gTup K 2 (gCons (gName i) (gCons (gName j) gNil))) (RPair K Ra Rb) [i, j] (fun Γ x => (Γ.set i (.im (Ra x.1))).set j (.im (Rb x.2))) := ⟨fun {B Γ σ F H x v Q} A hr k => by
  obtain ⟨q, v1, v2, rfl, h2, h3, h4⟩ := hr
  refine ⟨q, _, rfl, seqT_mono A.sub h2, rfl, v1, [v2], rfl, v2, [], rfl, rfl, ?_⟩
  exact k _ ((A.setIm h3).setIm h4) fun vs hv => by rw [wipe_set (hv j (by simp)), wipe_set (hv i (by simp))]⟩

theorem of_iteF {A B : Prop} (h : if false = true then A else B) : B := by
  rw [if_neg Bool.false_ne_true] at h
  exact h
theorem of_iteT {A B : Prop} (h : if true = true then A else B) : A := by
  rw [if_pos rfl] at h
  exact h
/-! ### comprehensions (their parts change nothing) -/
theorem pe_ex {ι : Type} {t : ι → TE} (h : ∀ i, PE X e (t i)) : PE X e (fun σ H Q => ∃ i, t i σ H Q) := ⟨fun pins s σ H Q I ⟨i, q⟩ => (h i).run pins s σ H Q I q⟩
theorem pts_ex {ι : Type} {es : List Expr} {t : ι → TT} (h : ∀ i, PTs X es (t i)) : PTs X es (fun σ H Q => ∃ i, t i σ H Q) := ⟨fun pins s σ H Q I ⟨i, q⟩ => (h i).run pins s σ H Q I q⟩
theorem pss_ex {ι : Type} {es : List Stmt} {t : ι → TS} (h : ∀ i, PSs X es (t i)) : PSs X es (fun D σ H => ∃ i, t i D σ H) := ⟨fun pins s σ H D I ⟨i, q⟩ => (h i).run pins s σ H D I q⟩
/-- slots for a block: its own names forgotten, nothing owned -/
inductive Pur : List Sl → List Sl → Prop
  | nil : Pur [] []
  | im {P Γ Γ'} : Pur Γ Γ' → Pur (.im P :: Γ) (.im P :: Γ')
  | any {s Γ Γ'} : Pur Γ Γ' → Pur (s :: Γ) (.any :: Γ')
def pureOf : List Sl → List Nat → List Sl
  | [], _ => []
  | s :: Γ, vs => (if 0 ∈ vs then .any else match s with | .im P => .im P | _ => .any) :: pureOf Γ ((vs.filter (· ≠ 0)).map (· - 1))
theorem fits_pure {F H : Hp} {F' H' : Hp} : ∀ {Γ Γ' : List Sl} {σ σ' : L2.St} (vs : List Nat), Pur Γ Γ' → Fits B F H Γ σ → (∀ i, i ∉ vs → σ'[i]? = σ[i]?) → σ'.length = σ.length → (∀ i ∈ vs, Γ'[i]? = some .any ∨ Γ'[i]? = none) →
    Fits ⟨F, H, fun _ => False, []⟩ F H Γ' σ' ∧ owA Γ' σ' = []
  | [], [], [], [], _, .nil, _, _, _, _ => ⟨trivial, rfl⟩
  | [], [], [], _ :: _, _, .nil, _, _, hl, _ => by simp at hl
  | [], [], _ :: _, _, _, .nil, h, _, _, _ => h.elim
  | _ :: _, _ :: _, [], _, _, _, h, _, _, _ => h.elim
  | _ :: _, _ :: _, _ :: _, [], _, _, _, _, hl, _ => by simp at hl
  | s :: Γ, s' :: Γ', x :: σ, x' :: σ', vs, pu, h, hs, hl, hv => by
    have step := fun (pu' : Pur Γ Γ') => fits_pure (F' := F') (H' := H') (Γ := Γ) (Γ' := Γ') (σ := σ) (σ' := σ') ((vs.filter (· ≠ 0)).map (· - 1)) pu' h.2 (fun i hi => by
        have := hs (i + 1) (fun z => hi (List.mem_map.mpr ⟨i + 1, List.mem_filter.mpr ⟨z, by simp⟩, by simp⟩))
        simpa using this) (by simpa using hl) (fun i hi => by
        obtain ⟨w, hw, e⟩ := List.mem_map.mp hi
        obtain ⟨hw1, hw2⟩ := List.mem_filter.mp hw
        have hw3 : w ≠ 0 := by simpa using hw2
        have hwi : w = i + 1 := by omega
        subst hwi
        have := hv (i + 1) hw1
        simpa using this)
    cases pu with
    | im pu =>
      obtain ⟨r1, r2⟩ := step pu
      rename_i P
      have n0 : 0 ∉ vs := fun z => by
        have := hv 0 z
        simp at this
      have ex : x' = x := by simpa using hs 0 n0
      subst ex
      obtain ⟨v, h1, h2⟩ := h.1
      exact ⟨⟨⟨v, h1, h2⟩, r1⟩, r2⟩
    | any pu =>
      obtain ⟨r1, r2⟩ := step pu
      exact ⟨⟨trivial, r1⟩, r2⟩
theorem wipe_out {σ : L2.St} : ∀ {vs : List Nat} {i : Nat}, i ∉ vs → (wipe σ vs)[i]? = σ[i]?
  | [], _, _ => rfl
  | v :: vs, i, h => by
    show ((wipe σ vs).set v none)[i]? = σ[i]?
    rw [List.getElem?_set_ne (fun z => h (by subst z; exact List.mem_cons_self)), wipe_out fun z => h (List.mem_cons_of_mem _ z)]
/-- what stands beside: an object that nobody here owns or knows is changed -/
theorem At.poke {Γ : List Sl} {σ : L2.St} {F H : Hp} {D : Addr} {o u : HO} (A : At B Γ σ F H) (hD : H D = some u) (fD : F D = none) (bD : B.H D = none) (n : D ∉ owA Γ σ) : At B Γ σ F (upd H D o) := by
  refine ⟨fun a w g => ?_, A.ext, fun a w g nb => ?_, A.new, fits_upd A.fit n, A.dis, fun a hb => ?_, A.pin⟩
  · have na : a ≠ D := fun z => by rw [z, fD] at g; cases g
    rw [upd_ne na]; exact A.sub _ _ g
  · have na : a ≠ D := fun z => by rw [z, bD] at g; cases g
    rw [upd_ne na]; exact A.kept _ _ g nb
  · obtain ⟨h1, ⟨w, h2⟩, h3⟩ := A.bob a hb
    have na : a ≠ D := fun z => by obtain ⟨o3, h3⟩ := h3; rw [z, bD] at h3; cases h3
    exact ⟨h1, ⟨w, (upd_ne na).trans h2⟩, h3⟩
theorem At.beside {Γ : List Sl} {σ : L2.St} {F H : Hp} {D : Addr} (A : At B Γ σ F H) (n : H D = none) : F D = none ∧ B.H D = none ∧ D ∉ owA Γ σ := ⟨(A.fresh n).1, (A.fresh n).2, A.notOwn n⟩
theorem lc_read {g : TG} {js vs : List Nat} {up : List Sl → α → List Sl} (tgt : Tg g R js up) {Γp : S → List Sl} {mi : S → (List α → S → Prop) → Prop} {mt : S → α → (Bool → Prop) → Prop} {me : S → α → (β → Prop) → Prop}
    (hp : ∀ s, Pur (Γ s) (Γp s)) (hj : ∀ j ∈ js, j ∈ vs) (hv : ∀ s, ∀ i ∈ vs, (Γp s)[i]? = some .any ∨ (Γp s)[i]? = none) {σ : L2.St} {H : Hp} {Q : VK}
    (q : tN B Γ Rb (fun s K => mi s fun xs s1 => xs.length ≤ 1000000 ∧ mMapIf xs (mt s1) (me s1) fun ys => K ys s1) σ H Q) :
    tLc (tI B Γ R mi) g (fun σ H Q => ∃ i : S × α × Bs, tT i.2.2 (fun _ : Unit => up (Γp i.1) i.2.1) (fun _ K => mt i.1 i.2.1 fun b => K b ()) σ H Q)
      (fun σ H Q => ∃ i : S × α × Bs, tE i.2.2 (fun _ : Unit => up (Γp i.1) i.2.1) Rb (fun _ K => me i.1 i.2.1 fun y => K y ()) σ H Q) vs σ H Q := by
  obtain ⟨s, F, K', A, hm, k⟩ := q
  refine ⟨s, F, _, A, hm, fun xs s1 J F1 H1 ⟨hz, h1⟩ A1 e1 src => ?_⟩
  intro D hD
  have bD := A1.beside hD
  refine ⟨fun i mm H' => ∃ Fi acc ys, mm = xs.length - i ∧ i ≤ xs.length ∧ Same F1 Fi ∧ At B (Γ s1) σ Fi H' ∧ H' D = some (.lst acc) ∧ Fi D = none ∧ AllR Rb ys acc Fi ∧ ys.length ≤ i ∧ mMapIf (xs.drop i) (mt s1) (me s1) fun zs => K' (ys ++ zs) s1, ?_, ?_⟩
  · refine ⟨xs.length, F1, [], [], by simp, Nat.zero_le _, Same.refl _, A1.layH hD, upd_same, bD.1, trivial, Nat.le_refl _, ?_⟩
    simpa using h1
  · rintro i mm H' ⟨Fi, acc, ys, rfl, hi, eF, Ai, hDi, fDi, av, hyl, hk⟩
    obtain ⟨s1', s2', s3'⟩ := src Fi H' eF Ai.sub
    by_cases hlt : i < xs.length
    · refine .inr ⟨s2' i hlt, fun H'' => ∃ mm', mm' < xs.length - i ∧ ∃ Fi acc ys, mm' = xs.length - (i + 1) ∧ i + 1 ≤ xs.length ∧ Same F1 Fi ∧ At B (Γ s1) σ Fi H'' ∧ H'' D = some (.lst acc) ∧ Fi D = none ∧ AllR Rb ys acc Fi ∧ ys.length ≤ i + 1 ∧ mMapIf (xs.drop (i + 1)) (mt s1) (me s1) fun zs => K' (ys ++ zs) s1, fun H'' z => z, fun v H2 hy => ?_⟩
      obtain ⟨F2, f1, f2, f3, f4, f5⟩ := s3' i xs[i] v H2 (List.getElem?_eq_getElem hlt) hy
      have A2 := Ai.grow f1 f2 f3 f4
      have hD2 := f2 _ _ hDi
      have fD2 : F2 D = none := f4.no fDi hDi
      rw [List.drop_eq_getElem_cons hlt] at hk
      -- the block's own base
      obtain ⟨pf, po⟩ := fits_pure (F' := F2) (H' := H2) (σ' := wipe σ vs) vs (hp s1) A2.fit (fun i hi => wipe_out hi) (wipe_length σ vs) (hv s1)
      have A3 : At ⟨F2, H2, fun _ => False, []⟩ (Γp s1) (wipe σ vs) F2 H2 := ⟨A2.sub, Same.refl _, fun a o e _ => e, fun a o e => .inl e, pf, by rw [po]; exact List.Pairwise.nil, fun a hb => hb.elim, fun _ z => nomatch z⟩
      refine tgt.run A3 f5 fun σ' A4 hw => ?_
      refine ⟨by rw [hw vs hj, wipe_wipe fun _ z => z], ⟨s1, xs[i], ⟨F2, H2, fun _ => False, []⟩⟩, (), F2, fun bb (_ : Unit) => if bb = true then me s1 xs[i] (fun y => mMapIf (xs.drop (i + 1)) (mt s1) (me s1) fun zs => K' (ys ++ (y :: zs)) s1) else mMapIf (xs.drop (i + 1)) (mt s1) (me s1) fun zs => K' (ys ++ zs) s1, A4, hk, fun bb _ F5 H5 h5 A5 e5 => ?_⟩
      have back : ∀ {F6 H6 : Hp}, At ⟨F2, H2, fun _ => False, []⟩ (up (Γp s1) xs[i]) σ' F6 H6 → At B (Γ s1) σ F6 H6 ∧ H6 D = some (.lst acc) ∧ F6 D = none := fun {F6 H6} A6 => by
        have sH : Same H2 H6 := fun a o e => A6.kept a o e id
        have nw : Nw F2 H2 F6 := fun a o e => A6.new a o e
        exact ⟨A2.grow A6.ext sH A6.sub nw, sH _ _ hD2, nw.no fD2 hD2⟩
      cases bb with
      | false =>
        refine iteF ?_
        have h5 := of_iteF h5
        obtain ⟨g1, g2, g3⟩ := back A5
        exact ⟨xs.length - (i + 1), by omega, F5, acc, ys, rfl, hlt, (eF.trans f1).trans e5, g1, g2, g3, (av.mono f1).mono e5, by omega, h5⟩
      | true =>
        refine iteT ?_
        have h5 := of_iteT h5
        refine ⟨⟨s1, xs[i], ⟨F2, H2, fun _ => False, []⟩⟩, (), F5, fun y (_ : Unit) => mMapIf (xs.drop (i + 1)) (mt s1) (me s1) fun zs => K' (ys ++ (y :: zs)) s1, A5, h5, fun y _ w F6 H6 h6 A6 e6 r6 => ?_⟩
        obtain ⟨g1, g2, g3⟩ := back A6
        refine ⟨acc, g2, ?_, xs.length - (i + 1), by omega, F6, acc ++ [w], ys ++ [y], rfl, hlt, ((eF.trans f1).trans e5).trans e6, ?_, upd_same, g3, ?_, by rw [List.length_append, List.length_singleton]; omega, ?_⟩
        · rw [av.len]
          exact Nat.lt_of_lt_of_le (Nat.lt_of_le_of_lt hyl hlt) (smallLen hz)
        · exact g1.poke g2 g3 bD.2.1 bD.2.2
        · exact (((av.mono f1).mono e5).mono e6).append ⟨r6, trivial⟩
        · simpa using h6
    · have e : i = xs.length := by omega
      subst e
      refine .inl ⟨s1' _ (Nat.le_refl _), ?_⟩
      rw [List.drop_length] at hk
      have hk : K' (ys ++ []) s1 := hk
      rw [List.append_nil] at hk
      exact k ys s1 D acc Fi H' hk Ai (e1.trans eF) hDi fDi bD.2.1 bD.2.2 av
end
end TL
namespace TL
open PySem L2

/-! ### comprehensions as expressions -/
def pureFrom (vs : List Nat) : Nat → List Sl → List Sl
  | _, [] => []
  | i, s :: Γ => (bif vs.any (Nat.beq i) then .any else match s with | .im P => .im P | _ => .any) :: pureFrom vs (i + 1) Γ
theorem pur_pure (vs : List Nat) : ∀ (i : Nat) (Γ : List Sl), Pur Γ (pureFrom vs i Γ)
  | _, [] => .nil
  | i, s :: Γ => by
    unfold pureFrom
    cases h : vs.any (Nat.beq i) with
    | true => exact .any (pur_pure vs (i + 1) Γ)
    | false =>
      cases s with
      | im P => exact .im (pur_pure vs (i + 1) Γ)
      | any => exact .any (pur_pure vs (i + 1) Γ)
      | ow O => exact .any (pur_pure vs (i + 1) Γ)
      | bo j O => exact .any (pur_pure vs (i + 1) Γ)
theorem pure_any (vs : List Nat) : ∀ (k : Nat) (Γ : List Sl) (j : Nat), (k + j) ∈ vs → (pureFrom vs k Γ)[j]? = some .any ∨ (pureFrom vs k Γ)[j]? = none
  | _, [], j, _ => .inr (by simp [pureFrom])
  | k, s :: Γ, 0, h => by
    left
    unfold pureFrom
    have : vs.any (Nat.beq k) = true := List.any_eq_true.mpr ⟨k, by simpa using h, by simp⟩
    rw [this]
    rfl
  | k, s :: Γ, j + 1, h => by
    unfold pureFrom
    have := pure_any vs (k + 1) Γ j (by rw [Nat.add_assoc, Nat.add_comm 1 j]; exact h)
    simpa using this
section
variable {X : Cx} {S S' : Type} {B : Bs} {Γ : S → List Sl} {K : PySem.W.Frag} {α β γ ι : Type} {R Ra : α → Pd} {Rb : β → Pd} {Rc : γ → Pd} {e a b c tg it elt cond : Expr} {pos p : Pos} {x : Str} {scope : Scope} {own : List (Str × Nat)}
variable {m ma : S → (α → S → Prop) → Prop} {mb : S → (β → S → Prop) → Prop} {g : TG} {js : List Nat} {up : List Sl → α → List Sl}
theorem pts_yes {Y : Cx} {Γ' : Unit → List Sl} {B' : Bs} : PTs Y [] (tT B' Γ' (fun _ K => K true ())) := ⟨fun pins s σ H Q I ⟨u, F, K', A, hm, k⟩ => pts_nil.run pins s σ H Q I (k true () F H hm A (Same.refl F))⟩
theorem tn_compIf {mi : S → (List α → S → Prop) → Prop} {mt : S → α → Unit → (Bool → Unit → Prop) → Prop} {me : S → α → Unit → (β → Unit → Prop) → Prop} (nd : X.N.Nodup) (hi : PI X tg it (tI B Γ R mi)) (ok : BlkOk X.N X.env.scope scope own)
    (hg : ∀ (s : Shared) (H : Hp) (C : Addr) (cl : List (Str × Addr)) (fp : List Addr), PG (X.blk s H scope (compEnvC scope cl C X.env) fp) tg g) (tgt : Tg g R js up)
    (ht : ∀ (s1 : S) (x : α) (B' : Bs) (s : Shared) (H : Hp) (C : Addr) (cl : List (Str × Addr)) (fp : List Addr), PT (X.blk s H scope (compEnvC scope cl C X.env) fp) cond (tT B' (fun _ : Unit => up (pureFrom (own.map (·.2)) 0 (Γ s1)) x) (mt s1 x)))
    (he : ∀ (s1 : S) (x : α) (B' : Bs) (s : Shared) (H : Hp) (C : Addr) (cl : List (Str × Addr)) (fp : List Addr), PE (X.blk s H scope (compEnvC scope cl C X.env) fp) elt (tE B' (fun _ : Unit => up (pureFrom (own.map (·.2)) 0 (Γ s1)) x) Rb (me s1 x)))
    (hj : ∀ j ∈ js, j ∈ own.map (·.2) := by decide) (hc : X.calm = true := by rfl) (hs : ∀ x, foldedSetIterable it X.env x = pure x := by intro _; rfl) :
    PE X (.ListComp elt [⟨tg, it, [cond], 0⟩] scope pos) (tN B Γ Rb (fun s K => mi s fun xs s1 => xs.length ≤ 1000000 ∧ mMapIf xs (fun x K => mt s1 x () fun b _ => K b) (fun x K => me s1 x () fun y _ => K y) fun ys => K ys s1)) :=
  pe_imp (pe_lc hc nd hi ok hg (fun s H C cl fp => pts_one (pt_imp (t := fun σ H Q => ∃ i : S × α × Bs, tT i.2.2 (fun _ : Unit => up (pureFrom (own.map (·.2)) 0 (Γ i.1)) i.2.1) (mt i.1 i.2.1) σ H Q)
      ⟨fun pins s' σ H' Q I ⟨i, q⟩ => (ht i.1 i.2.1 i.2.2 s H C cl fp).run pins s' σ H' Q I q⟩ fun _ _ _ q => q))
    (fun s H C cl fp => pe_ex fun i : S × α × Bs => he i.1 i.2.1 i.2.2 s H C cl fp) hs)
    fun σ H Q q => lc_read (mt := fun s1 x K => mt s1 x () fun b _ => K b) (me := fun s1 x K => me s1 x () fun y _ => K y) tgt (fun s => pur_pure _ 0 _) hj (fun s i hi => pure_any _ 0 _ i (by simpa using hi)) q
theorem tn_map {mi : S → (List α → S → Prop) → Prop} {me : S → α → Unit → (β → Unit → Prop) → Prop} (nd : X.N.Nodup) (hi : PI X tg it (tI B Γ R mi)) (ok : BlkOk X.N X.env.scope scope own)
    (hg : ∀ (s : Shared) (H : Hp) (C : Addr) (cl : List (Str × Addr)) (fp : List Addr), PG (X.blk s H scope (compEnvC scope cl C X.env) fp) tg g) (tgt : Tg g R js up)
    (he : ∀ (s1 : S) (x : α) (B' : Bs) (s : Shared) (H : Hp) (C : Addr) (cl : List (Str × Addr)) (fp : List Addr), PE (X.blk s H scope (compEnvC scope cl C X.env) fp) elt (tE B' (fun _ : Unit => up (pureFrom (own.map (·.2)) 0 (Γ s1)) x) Rb (me s1 x)))
    (hj : ∀ j ∈ js, j ∈ own.map (·.2) := by decide) (hc : X.calm = true := by rfl) (hs : ∀ x, foldedSetIterable it X.env x = pure x := by intro _; rfl) :
    PE X (.ListComp elt [⟨tg, it, [], 0⟩] scope pos) (tN B Γ Rb (fun s K => mi s fun xs s1 => xs.length ≤ 1000000 ∧ mMap xs (fun x K => me s1 x () fun y _ => K y) fun ys => K ys s1)) :=
  pe_imp (pe_lc hc nd hi ok hg (fun s H C cl fp => pts_ex fun i : S × α × Bs => pts_yes (B' := i.2.2) (Γ' := fun _ : Unit => up (pureFrom (own.map (·.2)) 0 (Γ i.1)) i.2.1))
    (fun s H C cl fp => pe_ex fun i : S × α × Bs => he i.1 i.2.1 i.2.2 s H C cl fp) hs)
    fun σ H Q q => lc_read (mt := fun _ _ K => K true) (me := fun s1 x K => me s1 x () fun y _ => K y) tgt (fun s => pur_pure _ 0 _) hj (fun s i hi => pure_any _ 0 _ i (by simpa using hi)) (by
      obtain ⟨s, F, K', A, hm, k⟩ := q
      refine ⟨s, F, K', A, ?_, k⟩
      have : (fun (xs : List α) (s1 : S) => xs.length ≤ 1000000 ∧ mMapIf xs (fun _ K => K true) (fun x K => me s1 x () fun y _ => K y) fun ys => K' ys s1) = (fun xs s1 => xs.length ≤ 1000000 ∧ mMap xs (fun x K => me s1 x () fun y _ => K y) fun ys => K' ys s1) := by
        funext xs s1
        rw [← mMapIf_true]
      show mi s (fun (xs : List α) (s1 : S) => xs.length ≤ 1000000 ∧ mMapIf xs (fun _ K => K true) (fun x K => me s1 x () fun y _ => K y) fun ys => K' ys s1)
      rw [this]
      exact hm)
end

/-- a list in the heap, read as any list -/
theorem te_l {X : Cx} {S : Type} {B : Bs} {Γ : S → List Sl} {K : PySem.W.Frag} {α : Type} {R : α → Pd} {e : Expr} {m : S → (List α → S → Prop) → Prop} (h : PE X e (tE B Γ (RLst R) m)) : PE X e (tE B Γ (RList K R) m) :=
  pe_imp h fun σ H Q ⟨s, F, K', A, hm, k⟩ => ⟨s, F, K', A, hm, fun x s' v F' H' kx A' e' ⟨q, vs, h1, h2, h3⟩ => k x s' v F' H' kx A' e' ⟨q, vs, h1, SqL.of h2, h3⟩⟩
/-! ### defs: what they promise -/
/-- arguments that are not changed -/
def spP {ι α : Type} (As : ι → List Pd) (R : α → Pd) (m : ι → (α → Prop) → Prop) : Sp := fun vs H Q _ => ∃ y F K, AllP (As y) vs F ∧ Same F H ∧ m y K ∧
  ∀ r v F' H', K r → (R r).p v F' → Same F F' → Same H H' → Same F' H' → Nw F H F' → Q v H'
/-- the first argument is lent, and changed -/
def spB {ι α T : Type} (O : T → Od) (As : ι → List Pd) (R : α → Pd) (m : ι → T → (α → T → Prop) → Prop) : Sp := fun vs H Q _ => ∃ y t F K j ws o, vs = .ref j :: ws ∧ AllP (As y) ws F ∧ Same F H ∧ F j = none ∧ H j = some o ∧ (O t).p o F ∧ m y t K ∧
  ∀ r t' v F' H' o', K r t' → (R r).p v F' → Same F F' → (∀ a u, a ≠ j → H a = some u → H' a = some u) → Same F' H' → Nw F H F' → F' j = none → H' j = some o' → (O t').p o' F' → Q v H'
/-- an __init__: the new instance is made -/
def spI {ι α : Type} (C : Addr) (As : ι → List Pd) (R : α → Pd) (m : ι → (α → Prop) → Prop) : Sp := fun vs H Q _ => ∃ y F K a dx ws, vs = .ref a :: ws ∧ AllP (As y) ws F ∧ Same F H ∧ F a = none ∧ F dx = none ∧ dx ≠ a ∧ H a = some (.ins C dx []) ∧ H dx = some (.own a) ∧ m y K ∧
  ∀ r F' H', K r → (R r).p (.ref a) F' → Same F F' → (∀ b u, b ≠ a → H b = some u → H' b = some u) → Same F' H' → (∀ b u, F' b = some u → F b = some u ∨ b = a ∨ H b = none) → Q .non H'

section
variable {X : Cx} {S S' : Type} {B : Bs} {Γ : S → List Sl} {K : PySem.W.Frag} {α β γ ι T : Type} {R Ra : α → Pd} {Rb : β → Pd} {Rc : γ → Pd} {e a b c o : Expr} {es : List Expr} {pos p apos : Pos} {x mn : Str} {k : Nat} {f C : Addr} {fd : FuncData} {ps : List Str}
variable {m : S → (α → S → Prop) → Prop} {mb : S → (β → S → Prop) → Prop} {As : ι → List Pd} {mr : S → (ι → S → Prop) → Prop} {O : T → Od}
theorem call_p {mf : ι → (α → Prop) → Prop} {σ : L2.St} {H : Hp} {Q : VK} {E : XK} (q : tE B Γ R (fun s K => mr s fun y s1 => mf y fun r => K r s1) σ H Q) : tCall (spP As R mf) [] E (tA B Γ As mr) σ H Q := by
  obtain ⟨s, F, K', A, hm, k⟩ := q
  refine ⟨s, F, _, A, hm, fun y s1 vs F1 H1 h1 A1 e1 r1 => ?_⟩
  show spP As R mf (vs ++ []) H1 Q E
  rw [List.append_nil]
  exact ⟨y, F1, _, r1, A1.sub, h1, fun r v F' H' kr rv eF eH sb nw => k r s1 v F' H' kr (A1.grow eF eH sb nw) (e1.trans eF) rv⟩
theorem te_call {mf : ι → (α → Prop) → Prop} (F : FnOk X.prog X.w X.K X.mg X.base CX0 k f fd ps (spP As R mf)) (hr : Room k X.A) (hm : X.mg x = some (.ref f)) (hk : PySem.W.keepIn X.K (.ref f) = true) (hb : Binds X.K fd ps []) (ha : PA X (e :: es) (tA B Γ As mr)) (hg : Gl X x := by rfl) (hdb : (x == ("__debug__" : Str)) = false := by decide)
    (hs : starEach (e :: es) X.env = (false, eval e X.env) :: starEach es X.env := by rfl) (hpl : (backTo pos (starEach es X.env)).any (·.1) = false := by rfl) :
    PE X (.Call (.Name x p) (e :: es) [] pos) (tE B Γ R (fun s K => mr s fun y s1 => mf y fun r => K r s1)) := pe_imp (pe_call F hr hg hm hk hb .nil (pass0 (X := X)) ha hdb hs hpl) fun _ _ _ q => call_p q
/-- a call with the lent thing of slot i (lent to the caller) -/
theorem call_b {mf : ι → T → (α → T → Prop) → Prop} {i : Nat} {j : Addr} {get : S → T} {put : S → T → S} (hG : ∀ s, (Γ s)[i]? = some (.bo j (O (get s)))) (hP : ∀ s t, Γ (put s t) = (Γ s).set i (.bo j (O t))) {σ : L2.St} {H : Hp} {Q : VK} {E : XK}
    (q : tE B Γ R (fun s K => mr s fun y s1 => mf y (get s1) fun r t => K r (put s1 t)) σ H Q) : tCall (spB O As R mf) [] E (tCons (tVar i) (tA B Γ As mr)) σ H Q := by
  obtain ⟨s, F, K', A, hm, k⟩ := q
  obtain ⟨ob, h1, h2, h3, h4, h5⟩ := A.bo (hG s)
  refine ⟨_, h1, s, F, _, A, hm, fun y s1 vs F1 H1 q1 A1 e1 r1 => ?_⟩
  show spB O As R mf (.ref j :: vs ++ []) H1 Q E
  rw [List.append_nil]
  obtain ⟨ob1, g1, g2, g3, g4, g5⟩ := A1.bo (hG s1)
  refine ⟨y, get s1, F1, _, j, vs, ob1, rfl, r1, A1.sub, g2, g3, g4, q1, fun r t' v F' H' o' kr rv eF eH sb nw fj hj ho => ?_⟩
  refine k r (put s1 t') v F' H' kr ?_ (e1.trans eF) rv
  rw [hP]
  -- first all but j grows, then j is written
  have sG : Same H1 (fun b => if b = j then some ob1 else H' b) := fun b u g => by
    by_cases hb : b = j
    · subst hb; rw [g3] at g; cases g; exact if_pos rfl
    · show (if b = j then _ else _) = _
      rw [if_neg hb]; exact eH b u hb g
  have A2 := A1.grow (H' := fun b => if b = j then some ob1 else H' b) eF sG (fun b u g => by
    by_cases hb : b = j
    · subst hb; rw [fj] at g; cases g
    · show (if b = j then _ else _) = _
      rw [if_neg hb]; exact sb b u g) nw
  have A3 := A2.writeB (O' := O t') (o := o') (hG s1) ho
  have : upd (fun b => if b = j then some ob1 else H' b) j o' = H' := by
    funext b
    unfold upd
    by_cases hb : b = j
    · subst hb; rw [if_pos rfl, hj]
    · rw [if_neg hb]
      show (if b = j then _ else _) = _
      rw [if_neg hb]
  rw [this] at A3
  exact A3
theorem te_callB {mf : ι → T → (α → T → Prop) → Prop} {xn : Str} {pn : Pos} (i : Nat) (get : S → T) (put : S → T → S) {j : Addr} (F : FnOk X.prog X.w X.K X.mg X.base CX0 k f fd ps (spB O As R mf)) (hr : Room k X.A) (hm : X.mg x = some (.ref f)) (hk : PySem.W.keepIn X.K (.ref f) = true) (hb : Binds X.K fd ps []) (ha : PA X es (tA B Γ As mr))
    (hG : ∀ s, (Γ s)[i]? = some (.bo j (O (get s))) := by intro _; rfl) (hP : ∀ s t, Γ (put s t) = (Γ s).set i (.bo j (O t)) := by intro _ _; rfl) (hN : X.N[i]? = some xn := by rfl) (hv : Vis X.env.scope xn := by first | exact Or.inl rfl | exact Or.inr (Or.inl rfl) | exact Or.inr (Or.inr rfl)) (hd : (xn == ("__debug__" : Str)) = false := by decide) (hcd : (xn == ("__classdict__" : Str)) = false := by decide)
    (hg : Gl X x := by rfl) (hdb : (x == ("__debug__" : Str)) = false := by decide) (hs : starEach (.Name xn pn :: es) X.env = (false, eval (.Name xn pn) X.env) :: starEach es X.env := by rfl) (hpl : (backTo pos (starEach es X.env)).any (·.1) = false := by rfl) :
    PE X (.Call (.Name x p) (.Name xn pn :: es) [] pos) (tE B Γ R (fun s K => mr s fun y s1 => mf y (get s1) fun r t => K r (put s1 t))) :=
  pe_imp (pe_call F hr hg hm hk hb .nil (pass0 (X := X)) (pa_cons (pe_var hN hv hd hcd) ha hs) hdb hs hpl) fun _ _ _ q => call_b hG hP q

/-! ### instances -/
/-- what is an instance of the class at C, with no attribute of the name -/
def InsR (R : α → Pd) (C : Addr) (mn : Str) : Prop := ∀ x v F, (R x).p v F → ∃ a dx fs, v = .ref a ∧ F a = some (.ins C dx fs) ∧ fs.lookup mn = none
theorem te_meth {mf : (α × ι) → (β → Prop) → Prop} {pl : Sem Bool} (hI : InsR R C mn) (ho : PE X o (tE B Γ R m)) (c : Cls X.K C) (hm : Meth X.K C mn f) (F : FnOk X.prog X.w X.K X.mg X.base CX0 k f fd ps (spP (acons R As) Rb mf)) (hr : Room k X.A) (hb : Binds X.K fd ps []) (ha : PA X (e :: es) (tA B Γ As mr))
    (hst : starEach (e :: es) X.env = (false, eval e X.env) :: starEach es X.env := by rfl) (hpl : (backTo pos (starEach es X.env)).any (·.1) = false := by rfl)
    (ht : eval (.Call (.Attribute o mn apos) (e :: es) [] pos) X.env = (do
      let ov ← eval o X.env
      standAt apos.atName
      let (f, first) ← holding [ov] (getMethod ov mn pl)
      callWith pos f first (backTo pos (starEach (e :: es) X.env)) (backToKw pos (keywordEach [] X.env))) := by rfl) :
    PE X (.Call (.Attribute o mn apos) (e :: es) [] pos) (tE B Γ Rb (fun s K => m s fun x s0 => mr s0 fun y s1 => mf (x, y) fun r => K r s1)) :=
  pe_imp (pe_meth ho c hm F hr hb .nil (pass0 (X := X)) ha hst hpl ht) fun σ H Q ⟨s, F, K', A, hm, k⟩ => ⟨s, F, _, A, hm, fun x s0 v F0 H0 h0 A0 e0 r0 => by
    obtain ⟨a, dx, fs, rfl, h2, h3⟩ := hI x v F0 r0
    refine ⟨a, dx, fs, rfl, A0.sub _ _ h2, h3, s0, F0, _, A0, h0, fun y s1 vs F1 H1 h1 A1 e1 r1 => ?_⟩
    show spP _ _ _ (.ref a :: (vs ++ [])) H1 Q _
    rw [List.append_nil]
    exact ⟨(x, y), F1, _, ⟨(R x).mono _ _ _ e1 r0, r1⟩, A1.sub, h1, fun r v F' H' kr rv eF eH sb nw => k r s1 v F' H' kr (A1.grow eF eH sb nw) ((e0.trans e1).trans eF) rv⟩⟩
theorem te_meth0 {mf : (α × Unit) → (β → Prop) → Prop} {pl : Sem Bool} (hI : InsR R C mn) (ho : PE X o (tE B Γ R m)) (c : Cls X.K C) (hm : Meth X.K C mn f) (F : FnOk X.prog X.w X.K X.mg X.base CX0 k f fd ps (spP (acons R anil) Rb mf)) (hr : Room k X.A) (hb : Binds X.K fd ps [])
    (ht : eval (.Call (.Attribute o mn apos) [] [] pos) X.env = (do
      let ov ← eval o X.env
      standAt apos.atName
      let (f, first) ← holding [ov] (getMethod ov mn pl)
      callWith pos f first (backTo pos (starEach [] X.env)) (backToKw pos (keywordEach [] X.env))) := by rfl) :
    PE X (.Call (.Attribute o mn apos) [] [] pos) (tE B Γ Rb (fun s K => m s fun x s1 => mf (x, ()) fun r => K r s1)) :=
  pe_imp (pe_meth0 ho c hm F hr hb .nil (pass0 (X := X)) ht) fun σ H Q ⟨s, F, K', A, hm, k⟩ => ⟨s, F, _, A, hm, fun x s0 v F0 H0 h0 A0 e0 r0 => by
    obtain ⟨a, dx, fs, rfl, h2, h3⟩ := hI x v F0 r0
    refine ⟨a, dx, fs, rfl, A0.sub _ _ h2, h3, ?_⟩
    exact ⟨(x, ()), F0, _, ⟨r0, trivial⟩, A0.sub, h0, fun r v F' H' kr rv eF eH sb nw => k r s0 v F' H' kr (A0.grow eF eH sb nw) (e0.trans eF) rv⟩⟩
theorem te_make {mf : ι → (α → Prop) → Prop} (M : Mk X.K C f) (F : FnOk X.prog X.w X.K X.mg X.base CX0 k f fd ps (spI C As R mf)) (hr : Room (k + 1) X.A) (hm : X.mg x = some (.ref C)) (hb : Binds X.K fd ps []) (ha : PA X (e :: es) (tA B Γ As mr)) (hg : Gl X x := by rfl) (hdb : (x == ("__debug__" : Str)) = false := by decide)
    (hs : starEach (e :: es) X.env = (false, eval e X.env) :: starEach es X.env := by rfl) (hpl : (backTo pos (starEach es X.env)).any (·.1) = false := by rfl) :
    PE X (.Call (.Name x p) (e :: es) [] pos) (tE B Γ R (fun s K => mr s fun y s1 => mf y fun r => K r s1)) :=
  pe_imp (pe_make M F hr hg hm hb .nil (pass0 (X := X)) ha hdb hs hpl) fun σ H Q ⟨s, F, K', A, hm, k⟩ => ⟨s, F, _, A, hm, fun y s1 vs F1 H1 h1 A1 e1 r1 => by
    intro a dx na nd ne
    rw [List.append_nil]
    have fa := (A1.fresh na).1
    have fd' := (A1.fresh nd).1
    have keep : ∀ b u, H1 b = some u → (upd (upd H1 dx (.own a)) a (.ins C dx [])) b = some u := fun b u g => by
      rw [upd_ne (ne_of_none g na), upd_ne (ne_of_none g nd)]; exact g
    refine ⟨y, F1, _, a, dx, vs, rfl, r1, fun b u g => keep b u (A1.sub _ _ g), fa, fd', ne, upd_same, by rw [upd_ne ne, upd_same], h1, fun r F' H' kr rv eF eH sb nw => ⟨rfl, ?_⟩⟩
    refine k r s1 _ F' H' kr (A1.grow eF (fun b u g => eH b u (ne_of_none g na) (keep b u g)) sb fun b u g => ?_) (e1.trans eF) rv
    rcases nw b u g with z | z | z
    · exact .inl z
    · exact .inr (z ▸ na)
    · right
      cases q : H1 b with
      | none => rfl
      | some w => rw [keep b w q] at z; cases z⟩
/-- e.f -/
def FldR (R : α → Pd) (C : Addr) (fn : Str) (Rb : β → Pd) (get : α → β) : Prop := ∀ x v F, (R x).p v F → ∃ a dx fs w, v = .ref a ∧ F a = some (.ins C dx fs) ∧ fs.lookup fn = some w ∧ (Rb (get x)).p w F
theorem te_fld {fn : Str} {get : α → β} (hf : FldR R C fn Rb get) (c : Cls X.K C) (hn : NoAttr X.K C fn) (ho : PE X o (tE B Γ R m)) (hb : attributeBase o fn X.env (eval o X.env) = eval o X.env := by rfl) : PE X (.Attribute o fn pos) (tE B Γ Rb (fun s K => m s fun x s1 => K (get x) s1)) :=
  pe_imp (pe_fld ho hb) fun σ H Q ⟨s, F, K', A, hm, k⟩ => ⟨s, F, _, A, hm, fun x s1 v F1 H1 h1 A1 e1 r1 => by
    obtain ⟨a, dx, fs, w, rfl, h2, h3, h4⟩ := hf x v F1 r1
    exact ⟨a, C, dx, fs, w, rfl, A1.sub _ _ h2, c, hn, h3, k _ s1 w F1 H1 h1 A1 e1 h4⟩⟩
end

/-! ### statements -/
structure Xt where
  nx : L2.St → Hp → Hp → Prop
  rt : V → Hp → Hp → Prop
  bk : L2.St → Hp → Hp → Prop := fun _ _ _ => False
  ct : L2.St → Hp → Hp → Prop := fun _ _ _ => False
structure Lk (P : Xt) (D : Ends) : Prop where
  nx : ∀ σ F H, P.nx σ F H → D.nx σ H
  rt : ∀ v F H, P.rt v F H → D.rt v H
  bk : ∀ σ F H, P.bk σ F H → D.bk σ H
  ct : ∀ σ F H, P.ct σ F H → D.ct σ H
def tS {S : Type} (B : Bs) (Γ : S → List Sl) (P : Xt) (m : S → Prop) : TS := fun D σ H => ∃ s F, At B (Γ s) σ F H ∧ m s ∧ Lk P D
def nxX {S : Type} (B : Bs) (Γ : S → List Sl) (Kn : S → Prop) : L2.St → Hp → Hp → Prop := fun σ F H => ∃ s, Kn s ∧ At B (Γ s) σ F H
def Fin (B : Bs) (F H : Hp) : Prop := Same B.F F ∧ Same F H ∧ (∀ a o, B.H a = some o → ¬ B.bor a → H a = some o) ∧ Nw B.F B.H F
theorem At.fin {B : Bs} {Γ : List Sl} {σ : L2.St} {F H : Hp} (A : At B Γ σ F H) : Fin B F H := ⟨A.ext, A.sub, A.kept, A.new⟩
/-- the ends of a def whose arguments are not changed; of one with a lent argument -/
def xP {α : Type} (B : Bs) (R : α → Pd) (Kf : α → Prop) : Xt := { nx := fun _ F H => ∃ r, Kf r ∧ (R r).p .non F ∧ Fin B F H, rt := fun v F H => ∃ r, Kf r ∧ (R r).p v F ∧ Fin B F H }
def xB {α T : Type} (B : Bs) (j : Addr) (O : T → Od) (R : α → Pd) (Kf : α → T → Prop) : Xt := { nx := fun _ F H => ∃ r t o, Kf r t ∧ (R r).p .non F ∧ Fin B F H ∧ F j = none ∧ H j = some o ∧ (O t).p o F, rt := fun v F H => ∃ r t o, Kf r t ∧ (R r).p v F ∧ Fin B F H ∧ F j = none ∧ H j = some o ∧ (O t).p o F }

section
variable {X : Cx} {S S' : Type} {B : Bs} {Γ : S → List Sl} {Γj : S' → List Sl} {K : PySem.W.Frag} {α β γ ι T : Type} {R Ra : α → Pd} {Rb : β → Pd} {e c tg it : Expr} {pos p : Pos} {x : Str} {P : Xt} {st : Stmt} {rest sa sb body : List Stmt} {g : TG} {js : List Nat} {up : List Sl → α → List Sl}
variable {m : S → (α → S → Prop) → Prop} {mt : S → (Bool → S → Prop) → Prop} {O : T → Od}
theorem ts_ret {Kf : α → Prop} (he : PE X e (tE B Γ R m)) (hP : P.rt = (xP B R Kf).rt := by rfl) : PSs X [.Return (some e) pos] (tS B Γ P (fun s => m s fun x _ => Kf x)) :=
  pss_imp (pss_one (ps_ret he)) fun D σ H ⟨s, F, A, hm, L⟩ => ⟨s, F, _, A, hm, fun x s1 v F1 H1 h1 A1 e1 r1 => L.rt v F1 H1 (by rw [hP]; exact ⟨x, h1, r1, A1.fin⟩)⟩
theorem ts_retB {Kf : α → T → Prop} {j : Addr} (i : Nat) (get : S → T) (he : PE X e (tE B Γ R m)) (hG : ∀ s, (Γ s)[i]? = some (.bo j (O (get s))) := by intro _; rfl) (hP : P.rt = (xB B j O R Kf).rt := by rfl) : PSs X [.Return (some e) pos] (tS B Γ P (fun s => m s fun x s1 => Kf x (get s1))) :=
  pss_imp (pss_one (ps_ret he)) fun D σ H ⟨s, F, A, hm, L⟩ => ⟨s, F, _, A, hm, fun x s1 v F1 H1 h1 A1 e1 r1 => L.rt v F1 H1 (by
    obtain ⟨o, _, h2, h3, h4, _⟩ := A1.bo (hG s1)
    rw [hP]
    exact ⟨x, get s1, o, h1, r1, A1.fin, h2, h3, h4⟩)⟩
/-- nothing more here -/
theorem ts_end {Kn : S' → Prop} (π : S → S') (hle : ∀ s, Le (Γ s) (Γj (π s))) (hP : P.nx = nxX B Γj Kn := by rfl) : PSs X [] (tS B Γ P (fun s => Kn (π s))) :=
  pss_imp pss_nil fun D σ H ⟨s, F, A, hm, L⟩ => L.nx σ F H (by rw [hP]; exact ⟨π s, hm, A.le (hle s)⟩)
/-- this way is never gone -/
theorem ts_never {sts : List Stmt} : PSs X sts (tS B Γ P (fun _ => False)) := pss_imp pss_never fun D σ H ⟨s, F, A, hm, L⟩ => hm.elim
theorem lk_nx {P : Xt} {D : Ends} (L : Lk P D) {nx : L2.St → Hp → Hp → Prop} {n : L2.St → Hp → Prop} (h : ∀ σ F H, nx σ F H → n σ H) : Lk { P with nx := nx } { D with nx := n } := ⟨h, L.rt, L.bk, L.ct⟩
theorem ts_set {i : Nat} {mr : α → S → Prop} (h : PS X st (tAsg (tE B Γ R m) (gName i))) (hr : ∀ x, PSs X rest (tS B (fun s => (Γ s).set i (.im (R x))) P (mr x))) : PSs X (st :: rest) (tS B Γ P (fun s => m s fun x s1 => mr x s1)) :=
  pss_imp (pss_cons h (pss_ex hr)) fun D σ H ⟨s, F, A, hm, L⟩ => ⟨s, F, _, A, hm, fun x s1 v F1 H1 h1 A1 e1 r1 => ⟨x, s1, F1, A1.setIm r1, h1, L⟩⟩
/-- the same: what is stored becomes a part of the state -/
theorem ts_setS {i : Nat} {Γ' : S' → List Sl} {mk : S → α → S'} {mr : S' → Prop} (h : PS X st (tAsg (tE B Γ R m) (gName i))) (hG : ∀ s x, Γ' (mk s x) = (Γ s).set i (.im (R x))) (hr : PSs X rest (tS B Γ' P mr)) : PSs X (st :: rest) (tS B Γ P (fun s => m s fun x s1 => mr (mk s1 x))) :=
  pss_imp (pss_cons h hr) fun D σ H ⟨s, F, A, hm, L⟩ => ⟨s, F, _, A, hm, fun x s1 v F1 H1 h1 A1 e1 r1 => ⟨mk s1 x, F1, by rw [hG]; exact A1.setIm r1, h1, L⟩⟩
/-- a new list, owned -/
theorem ts_setO {i : Nat} {Γ' : S' → List Sl} {mk : S → List α → S'} {mr : S' → Prop} {m : S → (List α → S → Prop) → Prop} (h : PS X st (tAsg (tN B Γ R m) (gName i))) (hG : ∀ s x, Γ' (mk s x) = (Γ s).set i (.ow (OList R x))) (hr : PSs X rest (tS B Γ' P mr)) : PSs X (st :: rest) (tS B Γ P (fun s => m s fun x s1 => mr (mk s1 x))) :=
  pss_imp (pss_cons h hr) fun D σ H ⟨s, F, A, hm, L⟩ => ⟨s, F, _, A, hm, fun x s1 q vs F1 H1 h1 A1 e1 hq fq bq nq av => ⟨mk s1 x, F1, by rw [hG]; exact A1.setOw fq hq bq nq ⟨vs, rfl, av⟩, h1, L⟩⟩
theorem ts_expr {mr : S → Prop} (h : PE X e (tE B Γ R m)) (hr : PSs X rest (tS B Γ P mr)) (hs : swapsWith e none pos.line X.env = pure false := by rfl) : PSs X (.Expr e pos :: rest) (tS B Γ P (fun s => m s fun _ s1 => mr s1)) :=
  pss_imp (pss_cons (ps_expr h hs) hr) fun D σ H ⟨s, F, A, hm, L⟩ => ⟨s, F, _, A, hm, fun x s1 v F1 H1 h1 A1 e1 r1 => ⟨s1, F1, A1, h1, L⟩⟩
/-- the owned list of slot i is not changed any more -/
theorem ts_freeze (i : Nat) {Γ' : S → List Sl} {get : S → List α} {mr : S → Prop} (hG : ∀ s, (Γ s)[i]? = some (.ow (OList R (get s)))) (hG' : ∀ s, Γ' s = (Γ s).set i (.im (RLst R (get s)))) (hr : PSs X rest (tS B Γ' P mr)) : PSs X rest (tS B Γ P mr) :=
  pss_imp hr fun D σ H ⟨s, F, A, hm, L⟩ => by
    obtain ⟨F', A', _⟩ := A.freeze (hG s) (P := RLst R (get s)) fun q o F' ⟨vs, h1, h2⟩ h3 => ⟨q, vs, rfl, by rw [h3, h1], h2⟩
    exact ⟨s, F', by rw [hG']; exact A', hm, L⟩
/-- another word for the same state -/
theorem ts_as {Γ' : S' → List Sl} (π : S → S') {mr : S' → Prop} (hle : ∀ s, Le (Γ s) (Γ' (π s))) (hr : PSs X rest (tS B Γ' P mr)) : PSs X rest (tS B Γ P (fun s => mr (π s))) :=
  pss_imp hr fun D σ H ⟨s, F, A, hm, L⟩ => ⟨π s, F, A.le (hle s), hm, L⟩
theorem ts_if {ma mb : S → (S' → Prop) → Prop} {mr : S' → Prop} (hc : PT X c (tT B Γ mt)) (ha : ∀ Kn, PSs X sa (tS B Γ { P with nx := nxX B Γj Kn } (fun s => ma s Kn))) (hb : ∀ Kn, PSs X sb (tS B Γ { P with nx := nxX B Γj Kn } (fun s => mb s Kn))) (hr : PSs X rest (tS B Γj P mr)) :
    PSs X (.If c sa sb pos :: rest) (tS B Γ P (fun s => mt s fun bb s1 => mIf bb (ma s1) (mb s1) mr)) :=
  pss_imp (pss_cons (ps_if hc (ha mr) (hb mr)) hr) fun D σ H ⟨s, F, A, hm, L⟩ => ⟨s, F, _, A, hm, fun bb s1 F1 H1 h1 A1 e1 => by
    have L' : Lk { P with nx := nxX B Γj mr } { D with nx := fun σ H => tS B Γj P mr D σ H } := lk_nx L fun σ F H ⟨s', k, A'⟩ => ⟨s', F, A', k, L⟩
    cases bb with
    | true => exact iteT ⟨s1, F1, A1, h1, L'⟩
    | false => exact iteF ⟨s1, F1, A1, h1, L'⟩⟩
/-- the first way doesn't come out -/
theorem ts_ifr {ma mr : S → Prop} (hc : PT X c (tT B Γ mt)) (ha : PSs X sa (tS B Γ { P with nx := fun _ _ _ => False } ma)) (hr : PSs X rest (tS B Γ P mr)) :
    PSs X (.If c sa [] pos :: rest) (tS B Γ P (fun s => mt s fun bb s1 => if bb = true then ma s1 else mr s1)) :=
  pss_imp (pss_cons (ps_if hc ha pss_nil) hr) fun D σ H ⟨s, F, A, hm, L⟩ => ⟨s, F, _, A, hm, fun bb s1 F1 H1 h1 A1 e1 => by
    cases bb with
    | true => exact iteT ⟨s1, F1, A1, of_iteT h1, lk_nx L fun σ F H z => z.elim⟩
    | false => exact iteF ⟨s1, F1, A1, of_iteF h1, L⟩⟩
def PSrc (J : It) (R : α → Pd) (xs : List α) : Pd := ⟨fun _ F => Src J F R xs, fun _ F F' e h F1 H1 e1 e2 => h F1 H1 (e.trans e1) e2⟩
theorem ts_for {Γh : S' → List Sl} {mi : S → (List α → S → Prop) → Prop} {mb : α → S' → (S' → Prop) → Prop} {mr : S' → Prop} (π : S → S') (hle : ∀ s, Le (Γ s) (Γh (π s))) (hi : PI X tg it (tI B Γ R mi)) (hg : PG X tg g) (tgt : Tg g R js up)
    (hb : ∀ (q : List (V × Pd)) (x : α) (Kn : S' → Prop), PSs X body (tS { B with pins := q } (fun s => up (Γh s) x) { P with nx := nxX { B with pins := q } Γh Kn, ct := nxX { B with pins := q } Γh Kn, bk := fun _ _ _ => False } (fun s => mb x s Kn))) (hr : PSs X rest (tS B Γh P mr))
    (hp : PassesOwn (model X.prog X.w) X.A X.env X.xe) (hc : X.calm = true := by rfl) (hs : ∀ x, foldedSetIterable it X.env x = pure x := by intro _; rfl) :
    PSs X (.For tg it body [] pos :: rest) (tS B Γ P (fun s => mi s fun xs s1 => mFor xs mb (π s1) mr)) :=
  pss_imp (pss_cons (ps_for hp hc hi hg (pss_ex fun z : List (V × Pd) × α × (S' → Prop) => hb z.1 z.2.1 z.2.2) hs) hr) fun D σ H ⟨s, F, A, hm, L⟩ => ⟨s, F, _, A, hm, fun xs s1 J F1 H1 h1 A1 e1 src => by
    refine ⟨fun i mm σ' H' => ∃ s' F', mm = xs.length - i ∧ i ≤ xs.length ∧ Src J F' R xs ∧ At B (Γh s') σ' F' H' ∧ mFor (xs.drop i) mb s' mr, ⟨xs.length, π s1, F1, by simp, Nat.zero_le _, src, A1.le (hle s1), by simpa using h1⟩, ?_⟩
    rintro i mm σ' H' ⟨s', F', rfl, hi, src', A', hk⟩
    obtain ⟨z1, z2, z3⟩ := src' F' H' (Same.refl _) A'.sub
    by_cases hlt : i < xs.length
    · rw [List.drop_eq_getElem_cons hlt] at hk
      refine .inr ⟨z2 i hlt, fun σ2 H2 => ∃ s' F', i + 1 ≤ xs.length ∧ Src J F' R xs ∧ At B (Γh s') σ2 F' H2 ∧ mFor (xs.drop (i + 1)) mb s' mr, fun σ2 H2 ⟨s2, F2, q1, q2, q3, q4⟩ => ⟨xs.length - (i + 1), by omega, s2, F2, rfl, q1, q2, q3, q4⟩, fun v H2 hy => ?_⟩
      obtain ⟨F2, f1, f2, f3, f4, f5⟩ := z3 i xs[i] v H2 (List.getElem?_eq_getElem hlt) hy
      have A2 := (A'.grow f1 f2 f3 f4).pinned (v := .non) (P := PSrc J R xs) ((PSrc J R xs).mono .non _ _ f1 src')
      refine tgt.run A2 f5 fun σ3 A3 _ => ?_
      have hk : mb xs[i] s' fun s2 => mFor (xs.drop (i + 1)) mb s2 mr := hk
      have out : ∀ σ4 F4 H4, nxX { B with pins := (.non, PSrc J R xs) :: B.pins } Γh (fun s2 => mFor (xs.drop (i + 1)) mb s2 mr) σ4 F4 H4 → ∃ s' F', i + 1 ≤ xs.length ∧ Src J F' R xs ∧ At B (Γh s') σ4 F' H4 ∧ mFor (xs.drop (i + 1)) mb s' mr := fun σ4 F4 H4 ⟨s4, k4, A4⟩ => by
        obtain ⟨A5, p5⟩ := A4.unpinned
        exact ⟨s4, F4, hlt, p5, A5, k4⟩
      exact ⟨⟨(.non, PSrc J R xs) :: B.pins, xs[i], fun s2 => mFor (xs.drop (i + 1)) mb s2 mr⟩, s', F2, A3, hk, ⟨out, L.rt, fun _ _ _ z => z.elim, out⟩⟩
    · have e : i = xs.length := by omega
      subst e
      rw [List.drop_length] at hk
      exact .inl ⟨z1 _ (Nat.le_refl _), s', F', A', hk, L⟩⟩
theorem ts_while {Γh : S' → List Sl} {mt : S' → (Bool → S' → Prop) → Prop} {mb : S' → (S' → Prop) → Prop} {mr : S' → Prop} (π : S → S') (hle : ∀ s, Le (Γ s) (Γh (π s))) (hc : PT X c (tT B Γh mt))
    (hb : ∀ (Kn : S' → Prop), PSs X body (tS B Γh { P with nx := nxX B Γh Kn, ct := nxX B Γh Kn, bk := fun _ _ _ => False } (fun s => mb s Kn))) (hr : PSs X rest (tS B Γh P mr)) (hp : PassesOwn (model X.prog X.w) X.A X.env X.xe) :
    PSs X (.While c body [] pos :: rest) (tS B Γ P (fun s => mWhile mt mb (π s) mr)) :=
  pss_imp (pss_cons (ps_while hp hc (pss_ex hb)) hr) fun D σ H ⟨s, F, A, ⟨Wm, ⟨n0, w0⟩, step⟩, L⟩ => by
    refine ⟨fun n σ' H' => ∃ s' F', At B (Γh s') σ' F' H' ∧ Wm n s', ⟨n0, π s, F, A.le (hle s), w0⟩, ?_⟩
    rintro n σ' H' ⟨s', F', A', w'⟩
    refine ⟨s', F', fun b s1 => if b = true then mb s1 fun s2 => ∃ n', n' < n ∧ Wm n' s2 else mr s1, A', step n s' w', fun b s1 F1 H1 h1 A1 e1 => ?_⟩
    cases b with
    | true =>
      refine iteT ⟨fun σ2 H2 => ∃ s2 F2, At B (Γh s2) σ2 F2 H2 ∧ ∃ n', n' < n ∧ Wm n' s2, fun σ2 H2 ⟨s2, F2, A2, n', l, w2⟩ => ⟨n', l, s2, F2, A2, w2⟩, ?_⟩
      have out : ∀ σ4 F4 H4, nxX B Γh (fun s2 => ∃ n', n' < n ∧ Wm n' s2) σ4 F4 H4 → ∃ s2 F2, At B (Γh s2) σ4 F2 H4 ∧ ∃ n', n' < n ∧ Wm n' s2 := fun σ4 F4 H4 ⟨s4, k4, A4⟩ => ⟨s4, F4, A4, k4⟩
      exact ⟨fun s2 => ∃ n', n' < n ∧ Wm n' s2, s1, F1, A1, of_iteT h1, ⟨out, L.rt, fun _ _ _ z => z.elim, out⟩⟩
    | false => exact iteF ⟨s1, F1, A1, of_iteF h1, L⟩

/-! ### owned lists -/
variable {get : S → List α} {put : S → List α → S} {xn : Str} {pn apos cpos : Pos} {b : Expr}
abbrev FewArgs (X : Cx) (cp : Pos) (as : List Expr) : Prop := ((backTo cp (starEach as X.env)).all (fun y => !y.1) && (backToKw cp (keywordEach [] X.env)).all (fun y => y.1.isSome) && decide (as.length + ([] : List Keyword).length + (if ([] : List Keyword).isEmpty then 0 else 1) < 30)) = true
theorem te_append (i : Nat) (get : S → List α) (put : S → List α → S) (he : PE X e (tE B Γ R m)) (hG : ∀ s, (Γ s)[i]? = some (.ow (OList R (get s))) := by intro _; rfl) (hP : ∀ s t, Γ (put s t) = (Γ s).set i (.ow (OList R t)) := by intro _ _; rfl)
    (hN : X.N[i]? = some xn := by rfl) (hv : Vis X.env.scope xn := by first | exact Or.inl rfl | exact Or.inr (Or.inl rfl) | exact Or.inr (Or.inr rfl)) (hd : (xn == ("__debug__" : Str)) = false := by decide) (hcd : (xn == ("__classdict__" : Str)) = false := by decide)
    (hs : starEach [e] X.env = (false, eval e X.env) :: starEach [] X.env := by rfl) (hpl : (backTo cpos (starEach [] X.env)).any (·.1) = false := by rfl)
    (hbase : attributeBase (.Name xn pn) "append" X.env (eval (.Name xn pn) X.env) = eval (.Name xn pn) X.env := by rfl) (hline : (apos.endLine == cpos.line) = true := by rfl) (hfew : FewArgs X cpos [e] := by rfl) :
    PE X (.Call (.Attribute (.Name xn pn) "append" apos) [e] [] cpos) (tE B Γ RNon (fun s K => m s fun y s1 => (get s1).length ≤ 1000000 ∧ K () (put s1 (get s1 ++ [y])))) :=
  pe_imp (pe_bm PySem.F.plainAttrs_list PySem.F.slot_list_append PySem.F.type_list_append mt_append (pe_var hN hv hd hcd) (pa_cons he pa_nil hs) hbase hfew hline hs hpl) fun σ H Q ⟨s, F, K', A, hm, k⟩ => by
    obtain ⟨q, o, h1, h2, h3, ⟨vs, h4, h5⟩, h6⟩ := A.ow (hG s)
    subst h4
    refine ⟨_, h1, .inl ⟨rfl, vs, SqL.of h3⟩, s, F, _, A, hm, fun y s1 v F1 H1 ⟨hz, k1⟩ A1 e1 r1 => ?_⟩
    obtain ⟨q', o', g1, g2, g3, ⟨vs', g4, g5⟩, g6⟩ := A1.ow (hG s1)
    rw [h1] at g1
    cases g1
    subst g4
    refine ⟨q, vs', v, rfl, rfl, g3, by rw [g5.len]; exact Nat.lt_of_le_of_lt hz (by decide), k () (put s1 (get s1 ++ [y])) _ F1 _ k1 ?_ e1 rfl⟩
    rw [hP]
    exact A1.write (hG s1) h1 ⟨_, rfl, g5.append ⟨r1, trivial⟩⟩
theorem te_pop (i : Nat) (get : S → List α) (put : S → List α → S) (hG : ∀ s, (Γ s)[i]? = some (.ow (OList R (get s))) := by intro _; rfl) (hP : ∀ s t, Γ (put s t) = (Γ s).set i (.ow (OList R t)) := by intro _ _; rfl)
    (hN : X.N[i]? = some xn := by rfl) (hv : Vis X.env.scope xn := by first | exact Or.inl rfl | exact Or.inr (Or.inl rfl) | exact Or.inr (Or.inr rfl)) (hd : (xn == ("__debug__" : Str)) = false := by decide) (hcd : (xn == ("__classdict__" : Str)) = false := by decide)
    (hbase : attributeBase (.Name xn pn) "pop" X.env (eval (.Name xn pn) X.env) = eval (.Name xn pn) X.env := by rfl) (hline : (apos.endLine == cpos.line) = true := by rfl) :
    PE X (.Call (.Attribute (.Name xn pn) "pop" apos) [] [] cpos) (tE B Γ R (fun s K => ∃ y, (get s)[(get s).length - 1]? = some y ∧ K y (put s (get s).dropLast))) :=
  pe_imp (pe_bm0 PySem.F.plainAttrs_list PySem.F.slot_list_pop PySem.F.type_list_pop mt_pop (pe_var hN hv hd hcd) hbase hline) fun σ H Q ⟨s, F, K', A, ⟨y, hy, hm⟩, k⟩ => by
    obtain ⟨q, o, h1, h2, h3, ⟨vs, h4, h5⟩, h6⟩ := A.ow (hG s)
    subst h4
    obtain ⟨v, hv, rv⟩ := h5.get hy
    refine ⟨_, h1, .inl ⟨rfl, vs, SqL.of h3⟩, q, vs, v, rfl, rfl, h3, by rw [h5.len]; exact hv, k y (put s (get s).dropLast) v F _ hm ?_ (Same.refl _) rv⟩
    rw [hP]
    exact A.write (hG s) h1 ⟨_, rfl, h5.dropLast⟩
theorem te_ownLen (i : Nat) (get : S → List α) (Pl : BP X "len" (.builtin "len")) (hG : ∀ s, (Γ s)[i]? = some (.ow (OList R (get s))) := by intro _; rfl) (hN : X.N[i]? = some xn := by rfl) (hv : Vis X.env.scope xn := by first | exact Or.inl rfl | exact Or.inr (Or.inl rfl) | exact Or.inr (Or.inr rfl)) (hd : (xn == ("__debug__" : Str)) = false := by decide) (hcd : (xn == ("__classdict__" : Str)) = false := by decide)
    (hs : starEach [.Name xn pn] X.env = (false, eval (.Name xn pn) X.env) :: starEach [] X.env := by rfl) (hpl : (backTo pos (starEach [] X.env)).any (·.1) = false := by rfl) :
    PE X (.Call (.Name "len" p) [.Name xn pn] [] pos) (tE B Γ RInt (fun s K => K ((get s).length : Int) s)) :=
  pe_imp (pe_bf Pl call_len_seq (pa_cons (pe_var hN hv hd hcd) pa_nil hs) hs hpl) fun σ H Q ⟨s, F, K', A, hm, k⟩ => by
    obtain ⟨q, o, h1, h2, h3, ⟨vs, h4, h5⟩, h6⟩ := A.ow (hG s)
    subst h4
    exact ⟨_, h1, q, vs, rfl, .inl (SqL.of h3), by rw [h5.len]; exact k _ s _ F H hm A (Same.refl _) rfl⟩
theorem te_ownIx (i : Nat) (get : S → List α) {mb : S → (Int → S → Prop) → Prop} (hb : PE X b (tE B Γ RInt mb)) (hG : ∀ s, (Γ s)[i]? = some (.ow (OList R (get s))) := by intro _; rfl) (hN : X.N[i]? = some xn := by rfl) (hv : Vis X.env.scope xn := by first | exact Or.inl rfl | exact Or.inr (Or.inl rfl) | exact Or.inr (Or.inr rfl)) (hd : (xn == ("__debug__" : Str)) = false := by decide) (hcd : (xn == ("__classdict__" : Str)) = false := by decide)
    (hs : PlainIx b := by exact fun _ _ => rfl) :
    PE X (.Subscript (.Name xn pn) b pos) (tE B Γ R (fun s K => mb s fun j s1 => ∃ y, pyAt (get s1) j = some y ∧ K y s1)) :=
  pe_imp (pe_ix ix_list (pe_var hN hv hd hcd) hb hs) fun σ H Q ⟨s, F, K', A, hm, k⟩ => by
    obtain ⟨q, o, h1, h2, h3, ⟨vs, h4, h5⟩, h6⟩ := A.ow (hG s)
    refine ⟨_, h1, s, F, _, A, hm, fun j s1 w F1 H1 ⟨y, hy, k1⟩ A1 e1 r1 => ?_⟩
    obtain ⟨q', o', g1, g2, g3, ⟨vs', g4, g5⟩, g6⟩ := A1.ow (hG s1)
    rw [h1] at g1
    cases g1
    subst g4
    obtain ⟨u, hu, ru⟩ := allR_at g5 hy
    exact ⟨q, vs', j, u, rfl, r1, SqL.of g3, hu, k y s1 u F1 H1 k1 A1 e1 ru⟩
/-- found != [], found == [] -/
theorem dpAllH {F H : Hp} {d : α → PyData} {n : Nat} (hK : X.K = K) (h : Dat K R d n) (e : Same F H) {xs : List α} {vs : List V} (av : AllR R xs vs F) : DpAll X.K H vs (xs.map d) := by
  subst hK
  induction xs generalizing vs with
  | nil => cases vs with | nil => exact .nil | cons => exact av.elim
  | cons x xs ih => cases vs with | nil => exact av.elim | cons v vs => exact .cons (Dp.same e (h.dp x v F av.1)) (ih av.2)
theorem tt_ownNe0 (i : Nat) (get : S → List α) {d : α → PyData} {n : Nat} {p1 : Pos} (hu : X.A.units + 64 < cLine) (h : Dat K R d n) (hn : n ≤ 50 := by decide) (hG : ∀ s, (Γ s)[i]? = some (.ow (OList R (get s))) := by intro _; rfl) (hN : X.N[i]? = some xn := by rfl) (hv : Vis X.env.scope xn := by first | exact Or.inl rfl | exact Or.inr (Or.inl rfl) | exact Or.inr (Or.inr rfl)) (hd : (xn == ("__debug__" : Str)) = false := by decide) (hcd : (xn == ("__classdict__" : Str)) = false := by decide) (hK : X.K = K := by rfl) :
    PT X (.Compare (.Name xn pn) [.NotEq] [.List [] p1] pos) (tT B Γ (fun s K => K (!(get s).isEmpty) s)) :=
  pt_imp (pt_cmpR (op_neD hu) (pe_var hN hv hd hcd) (pe_lst pa_nil) (nomark _)) fun σ H Q ⟨s, F, K', A, hm, k⟩ => by
    obtain ⟨q, o, h1, h2, h3, ⟨vs, h4, h5⟩, h6⟩ := A.ow (hG s)
    subst h4
    refine ⟨_, h1, Nat.zero_le _, fun r nr => ?_⟩
    have A2 := A.layH (o := .lst []) nr
    have nq : q ≠ r := ne_of_none h3 nr
    refine ⟨.list ((get s).map d), .list [], .lst (SqL.of (by rw [upd_ne nq]; exact h3)) (dpAllH hK h A2.sub h5), .lst (SqL.of upd_same) .nil, ?_, rfl, ?_⟩
    · have hl : PyData.depthAll ((get s).map d) ≤ n := depAll h.dep _
      have hl2 : (PyData.list ((get s).map d)).depth ≤ 64 := by
        show PyData.depthAll ((get s).map d) + 1 ≤ 64
        omega
      unfold SeqAt.shaped
      rw [show PyData.canLay0 (.list ((get s).map d)) = true from canAll h.lay _, decide_eq_true hl2]
      rfl
    · have : (!PyData.eqv (.list ((get s).map d)) (.list [])) = !(get s).isEmpty := by
        cases get s with
        | nil => rfl
        | cons x xs => rfl
      rw [this]
      exact ⟨_, rfl, k _ s F _ hm A2 (Same.refl _)⟩
theorem tn_ownTuple (i : Nat) (get : S → List α) (Pl : BP X "tuple" (.type "tuple")) (hG : ∀ s, (Γ s)[i]? = some (.ow (OList R (get s))) := by intro _; rfl) (hN : X.N[i]? = some xn := by rfl) (hv : Vis X.env.scope xn := by first | exact Or.inl rfl | exact Or.inr (Or.inl rfl) | exact Or.inr (Or.inr rfl)) (hd : (xn == ("__debug__" : Str)) = false := by decide) (hcd : (xn == ("__classdict__" : Str)) = false := by decide)
    (hs : starEach [.Name xn pn] X.env = (false, eval (.Name xn pn) X.env) :: starEach [] X.env := by rfl) (hpl : (backTo pos (starEach [] X.env)).any (·.1) = false := by rfl) :
    PE X (.Call (.Name "tuple" p) [.Name xn pn] [] pos) (tE B Γ (RTup K R) (fun s K => K (get s) s)) :=
  pe_imp (pe_bt Pl call_tuple_of (pa_cons (pe_var hN hv hd hcd) pa_nil hs) hs hpl) fun σ H Q ⟨s, F, K', A, hm, k⟩ => by
    obtain ⟨q, o, h1, h2, h3, ⟨vs, h4, h5⟩, h6⟩ := A.ow (hG s)
    subst h4
    refine ⟨_, h1, q, vs, rfl, .inl ⟨SqL.of h3, fun l nl => ?_⟩⟩
    obtain ⟨A2, e2⟩ := A.lay (o := .tup vs) nl
    exact k _ s _ _ _ hm A2 e2 ⟨l, vs, rfl, SqT.of upd_same, h5.mono e2⟩
end

theorem ts_use {X : Cx} {S : Type} {B : Bs} {Γ : S → List Sl} {P : Xt} {ss : List Stmt} {m m' : S → Prop} (h : PSs X ss (tS B Γ P m')) (i : ∀ s, m s → m' s) : PSs X ss (tS B Γ P m) :=
  pss_imp h fun D σ H ⟨s, F, A, hm, L⟩ => ⟨s, F, A, i s hm, L⟩

/-! ### a def by its body -/
def startG (N : List Str) (Ps : List Pd) : List Sl := Ps.map .im ++ List.replicate (N.length - Ps.length) .any
theorem fits_start {B : Bs} {F H : Hp} (n : Nat) : ∀ {Ps : List Pd} {vs : List V}, AllP Ps vs F → Fits B F H (Ps.map .im ++ List.replicate n .any) (vs.map some ++ List.replicate n none) ∧ owA (Ps.map .im ++ List.replicate n .any) (vs.map some ++ List.replicate n none) = []
  | [], [], _ => by
    induction n with
    | zero => exact ⟨trivial, rfl⟩
    | succ n ih =>
      rw [List.replicate_succ, List.replicate_succ]
      exact ⟨⟨trivial, ih.1⟩, ih.2⟩
  | P :: Ps, v :: vs, h => by
    obtain ⟨r1, r2⟩ := fits_start (B := B) (H := H) n h.2
    exact ⟨⟨⟨v, rfl, h.1⟩, r1⟩, r2⟩
section
variable {P : Program} {w : World} {K : PySem.W.Frag} {mg : Str → Option Value} {base : Heap} {xq qual : Str} {st : Stmt} {f : Addr} {fd : FuncData} {N ps : List Str} {k : Nat} {ι α T : Type} {As : ι → List Pd} {R : α → Pd} {O : T → Od}
theorem fnP {mf : ι → (α → Prop) → Prop} (F : Fun K xq qual st f fd) (Sc : FnScope N ps (defScope st)) (hl : ∀ y, (As y).length = ps.length)
    (hb : ∀ (cdv : Value) (A : Around) (outer : List Env) (s : Shared) (H : Hp) (E : XK), Room k (A.deeper (PyProof.Rows.envOfC qual (defScope st) s.heap.objs.size f cdv)) → ∀ (y : ι) (Kf : α → Prop) (B : Bs),
      PSs (cxOf CX0 P w K mg base N qual (defScope st) f cdv A outer s H E).nox (defBody st) (tS B (fun _ : Unit => startG N (As y)) (xP B R Kf) (fun _ => mf y Kf))) : FnOk P w K mg base CX0 (k + 1) f fd ps (spP As R mf) := by
  refine F.ok Sc (fun vs H Q E ⟨y, F, K', h1, _⟩ => by rw [h1.len, hl]) fun cdv A outer s H vs Q E hr ⟨y, F0, K', h1, h2, h3, h4⟩ => ⟨_, hb cdv A outer s H E hr y K' ⟨F0, H, fun _ => False, []⟩, (), F0, ?_, h3, ?_⟩
  · have hN : (As y).length ≤ N.length := by
      rw [hl]
      have := congrArg List.length Sc.pre
      rw [List.length_take] at this
      omega
    have hv : vs.length = (As y).length := h1.len
    obtain ⟨r1, r2⟩ := fits_start (B := ⟨F0, H, fun _ => False, []⟩) (H := H) (N.length - (As y).length) h1
    refine ⟨h2, Same.refl _, fun a o e _ => e, fun a o e => .inl e, ?_, ?_, fun a z => z.elim, fun _ z => nomatch z⟩
    · show Fits _ F0 H (startG N (As y)) (L2.start N vs)
      unfold startG L2.start
      rw [hv]
      exact r1
    · show (owA (startG N (As y)) (L2.start N vs)).Nodup
      unfold startG L2.start
      rw [hv, r2]
      exact List.Pairwise.nil
  · refine ⟨fun σ F' H' ⟨r, q1, q2, q3, q4, q5, q6⟩ => h4 r .non F' H' q1 q2 q3 (fun a o e => q5 a o e id) q4 q6, fun v F' H' ⟨r, q1, q2, q3, q4, q5, q6⟩ => h4 r v F' H' q1 q2 q3 (fun a o e => q5 a o e id) q4 q6, fun _ _ _ z => z.elim, fun _ _ _ z => z.elim⟩
theorem fnB {mf : ι → T → (α → T → Prop) → Prop} (F : Fun K xq qual st f fd) (Sc : FnScope N ps (defScope st)) (hl : ∀ y, (As y).length + 1 = ps.length)
    (hb : ∀ (cdv : Value) (A : Around) (outer : List Env) (s : Shared) (H : Hp) (E : XK), Room k (A.deeper (PyProof.Rows.envOfC qual (defScope st) s.heap.objs.size f cdv)) → ∀ (j : Addr) (y : ι) (Kf : α → T → Prop) (B : Bs),
      PSs (cxOf CX0 P w K mg base N qual (defScope st) f cdv A outer s H E).nox (defBody st) (tS B (fun t : T => .bo j (O t) :: ((As y).map .im ++ List.replicate (N.length - (As y).length - 1) .any)) (xB B j O R Kf) (fun t => mf y t Kf))) : FnOk P w K mg base CX0 (k + 1) f fd ps (spB O As R mf) := by
  refine F.ok Sc (fun vs H Q E ⟨y, t, F, K', j, ws, o, h1, h2, _⟩ => by rw [h1, List.length_cons, h2.len, hl]) fun cdv A outer s H vs Q E hr ⟨y, t, F0, K', j, ws, o, h0, h1, h2, hj1, hj2, hj3, h3, h4⟩ => ⟨_, hb cdv A outer s H E hr j y K' ⟨F0, H, fun a => a = j, []⟩, t, F0, ?_, h3, ?_⟩
  · subst h0
    have hN : (As y).length + 1 ≤ N.length := by
      rw [hl]
      have := congrArg List.length Sc.pre
      rw [List.length_take] at this
      omega
    have hv : ws.length = (As y).length := h1.len
    obtain ⟨r1, r2⟩ := fits_start (B := ⟨F0, H, fun a => a = j, []⟩) (H := H) (N.length - (As y).length - 1) h1
    have es : L2.start N (.ref j :: ws) = some (.ref j) :: (ws.map some ++ List.replicate (N.length - (As y).length - 1) none) := by
      unfold L2.start
      rw [List.map_cons, List.cons_append, List.length_cons, hv, Nat.sub_add_eq]
    refine ⟨h2, Same.refl _, fun a o e _ => e, fun a o e => .inl e, ?_, ?_, fun a z => ?_, fun _ z => nomatch z⟩
    · rw [es]
      exact ⟨⟨o, rfl, hj1, hj2, hj3, rfl⟩, r1⟩
    · rw [es]
      show ([j] ++ owA _ _).Nodup
      rw [r2]
      simp
    · have z : a = j := z
      subst z
      exact ⟨hj1, ⟨o, hj2⟩, o, hj2⟩
  · refine ⟨fun σ F' H' ⟨r, t', o', q1, q2, ⟨q3, q4, q5, q6⟩, q7, q8, q9⟩ => h4 r t' .non F' H' o' q1 q2 q3 (fun a u na e => q5 a u e na) q4 q6 q7 q8 q9, fun v F' H' ⟨r, t', o', q1, q2, ⟨q3, q4, q5, q6⟩, q7, q8, q9⟩ => h4 r t' v F' H' o' q1 q2 q3 (fun a u na e => q5 a u e na) q4 q6 q7 q8 q9, fun _ _ _ z => z.elim, fun _ _ _ z => z.elim⟩
end
end TL
namespace TL
open PySem L2

/-! ### == and != of instances by the text's own __eq__ -/
section
variable {prog : Program} {w : World} {A : Around} {E : Value → Shared → Prop} {s : Shared} {K : PySem.W.Frag} {x y C f : Addr} {ox oy : Obj} {od : Option Obj}
theorem slot_own {id owner n : String} {rest : List Value} {Q : Unit → Shared → Prop} (hk : builtinKind id = some .slot) (hs : splitId id = some (owner, n)) (ha : argsOk id ⟨.ref x :: rest, []⟩)
    (X : K.In s.heap) (I : PySem.W.InstAt s.heap x ox C od) (hM : PySem.W.mroIn K C (.type owner) = some true) (hq : Q () s) : wpAny (model prog w) A (checkBuiltinCall id ⟨.ref x :: rest, []⟩) Q E s := by
  simp only [checkBuiltinCall, hk, hs]
  refine wpAny_bind ?_
  unfold isInstance
  refine wpAny_bind (I.type.here ?_)
  refine (PySem.W.looks_mroIn X hM).here ?_
  simp only [Bool.not_true, Bool.false_eq_true, if_false]
  cases hsig : Manifest.signature? id with
  | none => exact wpAny_pure hq
  | some sig =>
    simp only [argsOk, hsig] at ha
    have h2 : Bind.checkArgs id sig ⟨.ref x :: rest, []⟩ = pure () := ha
    show wpAny (model prog w) A (Bind.checkArgs id sig ⟨.ref x :: rest, []⟩) Q E s
    rw [h2]
    exact wpAny_pure hq
theorem ne_body {Q : PySem.Fin → Shared → Prop} (hu : A.units < cLine) (X : K.In s.heap) (I : PySem.W.InstAt s.heap x ox C od) (he : PySem.W.findIn K (.ref C) "__eq__" = some (some (.ref f))) (hf : PySem.W.isFn K (.ref f) = true)
    (hcall : wpAny (model prog w) A (call (.ref f) [.ref x, .ref y]) (fun v s' => ∃ b, v = .bool b ∧ Q (.done (.ret (.bool (!b)))) s') E s) : wpAny (model prog w) A (Builtin.«object.__ne__» ⟨[.ref x, .ref y], []⟩) Q E s := by
  unfold Builtin.«object.__ne__»
  repeat (first
    | with_reducible refine wpAny_cRoomFor hu ?_
    | (refine wpAny_bind (m := callSpecialIfBound? (.ref x) (Str.ofString "__eq__") [.ref y]) (PySem.W.ifBound_K X I he hf (wpAny_mono hcall (fun r s' hr => by
          obtain ⟨b, rfl, hq⟩ := hr
          repeat (first | exact hq | exact wpAny_pure hq | exact wpAny_truthy_bool hq | (refine wpAny_bind (m := truthy (.bool _)) (wpAny_truthy_bool ?_)) | wp_step)) fun _ _ e => e)))
    | wp_step)
theorem ne_own {Q : Value → Shared → Prop} (hu : A.units + 1 < cLine) (X : K.In s.heap) (I : PySem.W.InstAt s.heap x ox C od) (Ty : PySem.W.Looks (model prog w) s.heap (typeOf (.ref y)) (.ref C)) (hn : PySem.W.findIn K (.ref C) "__ne__" = some (some (.builtin "object.__ne__"))) (hM : PySem.W.mroIn K C (.type "object") = some true)
    (he : PySem.W.findIn K (.ref C) "__eq__" = some (some (.ref f))) (hf : PySem.W.isFn K (.ref f) = true)
    (hcall : wpAny (model prog w) A.in1 (call (.ref f) [.ref x, .ref y]) (fun v s' => ∃ b, v = .bool b ∧ Q (.bool (!b)) s') E s) : wpAny (model prog w) A (richCompare .NotEq (.ref x) (.ref y)) Q E s := by
  have S := PySem.F.cmp_object.ne
  have called : wpAny (model prog w) A (call (.builtin "object.__ne__") [.ref x, .ref y]) (fun v s' => ∃ b, v = .bool b ∧ Q (.bool b) s') E s :=
    wpAny_call (codeAny_call_builtin S.plain PySem.F.cmpEntry_ne (slot_own PySem.F.cmpKind_ne PySem.F.cmpSplit_ne (PySem.F.cmpArgs_ne _ _) X I hM (ne_body (A := A.in1) hu X I he hf (wpAny_mono hcall (fun v s' ⟨b, hb, hq⟩ => ⟨b, hb, !b, rfl, hq⟩) fun _ _ e => e))))
  have one : wpAny (model prog w) A (tryCompare (.ref x) "__ne__" (.ref y)) (fun r s' => ∃ v, r = some v ∧ Q v s') E s := by
    unfold tryCompare
    simp only [callSpecialIfBound?, bindSpecialIfBound?]
    refine wpAny_bind (wpAny_holding (wpAny_bind (wpAny_bind (wpAny_bind (I.type.here ((PySem.W.looks_findIn X hn).here ?_))))))
    simp only [S.bind]
    refine wpAny_bind (wpAny_askSetting (wpAny_ite ?_))
    have fin : wpAny (model prog w) A (call (.builtin "object.__ne__") ([.ref x] ++ [.ref y]) >>= fun v => pure (some v)) (fun r s' => wpAny (model prog w) A (match r with | some .notImplemented => pure none | none => pure none | some v => pure (some v)) (fun r s' => ∃ v, r = some v ∧ Q v s') E s') E s :=
      wpAny_bind (wpAny_mono called (fun v s' ⟨b, hb, hq⟩ => by subst hb; exact wpAny_pure (wpAny_pure ⟨_, rfl, hq⟩)) fun _ _ h' => h')
    split
    · exact wpAny_bind (wpAny_pure (wpAny_pure fin))
    · exact wpAny_tryCatch (wpAny_bind (wpAny_pure (wpAny_pure fin)))
  unfold richCompare
  simp only [oneThing_ref]
  refine wpAny_holding (wpAny_bind (wpAny_cRoomFor (Nat.lt_of_succ_lt hu) ?_))
  rw [cmpInfo_NotEq]
  dsimp only
  refine wpAny_bind (I.type.here (wpAny_bind (Ty.here ?_)))
  rw [show (Value.ref C != Value.ref C) = false from by simp]
  simp only [Bool.false_eq_true, if_false]
  refine wpAny_bind (wpAny_pure ?_)
  simp only [Bool.false_eq_true, if_false]
  refine wpAny_bind (wpAny_mono one (fun r s' z => ?_) fun _ _ e => e)
  obtain ⟨v, rfl, hq⟩ := z
  exact wpAny_pure hq
end
section
variable {X : Cx} {α β : Type} {Ra : α → Pd} {Rb : β → Pd} {C D f : Addr} {fd : FuncData} {ps : List Str} {k : Nat} {mf : α × β × Unit → (Bool → Prop) → Prop} {g : α → β → Bool}
/-- what is an instance -/
def IsI (R : α → Pd) (C : Addr) : Prop := ∀ x v F, (R x).p v F → ∃ a dx fs, v = .ref a ∧ F a = some (.ins C dx fs)
def rOwn (sp : Sp) (C : Addr) : R2 := fun x y H Q => (∃ a b dx dy fs gs, x = .ref a ∧ y = .ref b ∧ H a = some (.ins C dx fs) ∧ H b = some (.ins C dy gs)) ∧ sp [x, y] H Q E0
theorem run_own {sp : Sp} {B : XK} {pins : List (Addr × Obj)} {s : Shared} {σ : L2.St} {H : Hp} {a b : Addr} {Q : VK} {Ar : Around} (Fn : FnOk X.prog X.w X.K X.mg X.base CX0 k f fd ps sp) (hb : Binds X.K fd ps []) (hr : Room k Ar) (hfr : Ar.frames = X.A.frames) (I : Inv X pins σ H s) (hsp : sp [.ref a, .ref b] H Q E0) :
    wpAny (model X.prog X.w) Ar (call (.ref f) [.ref a, .ref b]) (EP X pins σ Q) X.xe s := by
  have e := I.env0
  have e0 : Env0 X.prog X.w X.K X.mg X.base Ar X.stack s H := ⟨by rw [hfr]; exact e.frames, e.mod, e.bs, e.bsz, e.funs, e.frf, e.hok, e.bare⟩
  have hl := Fn.len _ _ _ _ hsp
  have r2 : Vals [V.ref a, V.ref b] [Value.ref a, Value.ref b] := .cons rfl (.cons rfl .nil)
  refine wpAny_call (codeAny_mono (Fn.run Ar X.stack s H ⟨[.ref a, .ref b], []⟩ [.ref a, .ref b] [.ref a, .ref b] Q E0 hr e0 (by
    have z := hb s [.ref a, .ref b] I.kIn (by simpa using hl)
    simpa using z) r2 hsp) fun r s' hq => ?_)
  cases r with
  | error ev => exact pass0 (X := X) pins σ H s ev s' I hq
  | ok fl =>
    cases fl with
    | ret u =>
      obtain ⟨z, H', I', rz, q⟩ := I.after hq
      exact ⟨z, H', I', rz, q⟩
    | next => exact False.elim hq
    | brk => exact False.elim hq
    | cont => exact False.elim hq
theorem cr_ownEq (h1 : IsI Ra C) (h2 : IsI Rb C) (Fn : FnOk X.prog X.w X.K X.mg X.base CX0 k f fd ps (spP (acons Ra (acons Rb anil)) RBool mf)) (hm : ∀ x y Kf, Kf (g x y) → mf (x, y, ()) Kf) (hs : PySem.W.findIn X.K (.ref C) "__eq__" = some (some (.ref f))) (hf : PySem.W.isFn X.K (.ref f) = true) (hb : Binds X.K fd ps []) (hr : Room k X.A) : CR X .Eq Ra Rb g := by
  refine ⟨fun x y H Q => (∃ a b dx dy fs gs, x = .ref a ∧ y = .ref b ∧ H a = some (.ins C dx fs) ∧ H b = some (.ins C dy gs)) ∧ spP (acons Ra (acons Rb anil)) RBool mf [x, y] H (fun v H' => (∃ c, v = .bl c) ∧ Q v H') E0, ?_, ?_⟩
  · intro pins s σ H x y v u Q I rx ry ⟨⟨a, b, dx, dy, fs, gs, ex, ey, ha, hb'⟩, hsp⟩
    subst ex; subst ey
    cases rx; cases ry
    obtain ⟨mA, J, _⟩ := ins_get I.hok ha
    obtain ⟨mB, J', _⟩ := ins_get I.hok hb'
    obtain ⟨od, J, _⟩ := J.look
    obtain ⟨od', J', _⟩ := J'.look
    obtain ⟨m, hF⟩ := I.fr
    show wpAny (model X.prog X.w) X.A (richCompare .Eq (.ref a) (.ref b)) _ _ s
    refine PySem.W.cmp_K (op := .Eq) (tb := .ref C) hr.units0 hF I.ok.mod.kin J J'.type (by simp [PySem.W.notFirst]) hs hf ?_
    refine wpAny_mono (run_own (B := E0) Fn hb hr rfl I hsp) (fun r s' ⟨z, H', I', rz, ⟨c, ec⟩, q⟩ => ?_) fun _ _ e => e
    subst ec
    cases (show r = Value.bool c from rz)
    exact ⟨.bl c, H', I', rfl, q⟩
  · intro x y v w F H Q hx hy e q
    obtain ⟨a, dx, fs, ea, ha⟩ := h1 x v F hx
    obtain ⟨b, dy, gs, eb, hb'⟩ := h2 y w F hy
    refine ⟨⟨a, b, dx, dy, fs, gs, ea, eb, e _ _ ha, e _ _ hb'⟩, (x, y, ()), F, fun r => r = g x y, ⟨hx, hy, trivial⟩, e, hm x y _ rfl, fun r v' F' H' hr' hv z1 z2 z3 z4 => ?_⟩
    have hv : v' = .bl r := hv
    subst hv; subst hr'
    exact ⟨⟨_, rfl⟩, q F' H' z1 z2 z3 z4⟩
theorem cr_ownNe (h1 : IsI Ra C) (h2 : IsI Rb C) (Fn : FnOk X.prog X.w X.K X.mg X.base CX0 k f fd ps (spP (acons Ra (acons Rb anil)) RBool mf)) (hm : ∀ x y Kf, Kf (g x y) → mf (x, y, ()) Kf) (hs : PySem.W.findIn X.K (.ref C) "__eq__" = some (some (.ref f))) (hf : PySem.W.isFn X.K (.ref f) = true) (hn : PySem.W.findIn X.K (.ref C) "__ne__" = some (some (.builtin "object.__ne__"))) (hM : PySem.W.mroIn X.K C (.type "object") = some true)
    (hb : Binds X.K fd ps []) (hr : Room (k + 1) X.A) : CR X .NotEq Ra Rb (fun x y => !g x y) := by
  refine ⟨fun x y H Q => (∃ a b dx dy fs gs, x = .ref a ∧ y = .ref b ∧ H a = some (.ins C dx fs) ∧ H b = some (.ins C dy gs)) ∧ spP (acons Ra (acons Rb anil)) RBool mf [x, y] H (fun v H' => ∃ c, v = .bl c ∧ Q (.bl (!c)) H') E0, ?_, ?_⟩
  · intro pins s σ H x y v u Q I rx ry ⟨⟨a, b, dx, dy, fs, gs, ex, ey, ha, hb'⟩, hsp⟩
    subst ex; subst ey
    cases rx; cases ry
    obtain ⟨mA, J, _⟩ := ins_get I.hok ha
    obtain ⟨mB, J', _⟩ := ins_get I.hok hb'
    obtain ⟨od, J, _⟩ := J.look
    obtain ⟨od', J', _⟩ := J'.look
    show wpAny (model X.prog X.w) X.A (richCompare .NotEq (.ref a) (.ref b)) _ _ s
    have hu : X.A.units + 1 < cLine := by have := hr.units; omega
    refine ne_own hu I.kIn J J'.type hn hM hs hf ?_
    refine wpAny_mono (run_own (B := E0) (Ar := X.A.in1) Fn hb hr.in1 rfl I hsp) (fun r s' ⟨z, H', I', rz, c, ec, q⟩ => ?_) fun _ _ e => e
    subst ec
    cases (show r = Value.bool c from rz)
    exact ⟨c, rfl, .bl (!c), H', I', rfl, q⟩
  · intro x y v w F H Q hx hy e q
    obtain ⟨a, dx, fs, ea, ha⟩ := h1 x v F hx
    obtain ⟨b, dy, gs, eb, hb'⟩ := h2 y w F hy
    refine ⟨⟨a, b, dx, dy, fs, gs, ea, eb, e _ _ ha, e _ _ hb'⟩, (x, y, ()), F, fun r => r = g x y, ⟨hx, hy, trivial⟩, e, hm x y _ rfl, fun r v' F' H' hr' hv z1 z2 z3 z4 => ?_⟩
    have hv : v' = .bl r := hv
    subst hv; subst hr'
    exact ⟨_, rfl, q F' H' z1 z2 z3 z4⟩
end

/-! ### t[::-1] of a tuple -/
section
variable {prog : Program} {w : World} {A : Around} {E : Value → Shared → Prop} {s : Shared}
theorem step_back {sl : Addr} {tk : Tok} {n : Nat} {Q : Int × Int × Nat → Shared → Prop} (hs : s.heap.IsSliceOf sl .none .none (.int (-1) tk)) (h : Q ((n : Int) - 1, -1, n) s) : wpAny (model prog w) A (Builtin.Slice.sliceApplied (.ref sl) (pure (n : Int))) Q E s := by
  obtain ⟨os, hos, hcs, hds⟩ := id hs
  unfold Builtin.Slice.sliceApplied Builtin.Slice.sliceFields
  refine wpAny_bind (wpAny_bind (wpAny_field hos hds (x := .none) rfl (wpAny_bind (wpAny_field hos hds (x := .none) rfl (wpAny_bind (wpAny_field hos hds (x := .int (-1) tk) rfl (wpAny_pure ?_)))))))
  refine wpAny_bind (HT.slicePart_ (.int (-1) tk) ?_)
  show wpAny _ _ (if (((some (-1 : Int)).getD 1) == 0) = true then _ else _) _ _ s
  rw [if_neg (by decide)]
  refine wpAny_bind (HT.slicePart_ .none (wpAny_bind (HT.slicePart_ .none (wpAny_bind (wpAny_pure ?_)))))
  have e1 : Builtin.Slice.sliceAdjust none none (-1) (n : Int) = ((n : Int) - 1, -1) := by
    unfold Builtin.Slice.sliceAdjust
    simp
  have e2 : Builtin.Slice.slicePlaces ((n : Int) - 1) (-1) (-1) = n := by
    unfold Builtin.Slice.slicePlaces
    simp only [show ¬ ((-1 : Int) > 0) by decide, if_false, show (- -1 : Int) = 1 by decide, Int.ediv_one]
    split <;> omega
  show wpAny _ _ (match Builtin.Slice.sliceAdjust none none (-1) (n : Int) with | (lo, hi) => pure (lo, (-1 : Int), Builtin.Slice.slicePlaces lo hi (-1))) _ _ s
  rw [e1]
  show wpAny _ _ (pure ((n : Int) - 1, (-1 : Int), Builtin.Slice.slicePlaces ((n : Int) - 1) (-1) (-1))) _ _ s
  rw [e2]
  exact wpAny_pure h
theorem fm_on {α β : Type} {f g : α → Option β} : ∀ {l : List α}, (∀ x ∈ l, f x = g x) → l.filterMap f = l.filterMap g
  | [], _ => rfl
  | x :: l, h => by
    rw [List.filterMap_cons, List.filterMap_cons, h x List.mem_cons_self, fm_on fun y hy => h y (List.mem_cons_of_mem _ hy)]
theorem back_pick (xs : Array Value) : ((List.range xs.size).filterMap fun (m : Nat) => xs[(((xs.size : Nat) : Int) - 1 + (m : Int) * -1).toNat]?) = xs.toList.reverse := by
  have g : ((List.range xs.size).filterMap fun (m : Nat) => xs[(((xs.size : Nat) : Int) - 1 + (m : Int) * -1).toNat]?) = ((List.range xs.size).map fun m => xs.size - 1 - m).filterMap (fun m => xs[m]?) := by
    rw [List.filterMap_map]
    refine fm_on fun m hm => ?_
    have hm := List.mem_range.mp hm
    have e : (((xs.size : Nat) : Int) - 1 + (m : Int) * -1).toNat = xs.size - 1 - m := by omega
    show xs[(((xs.size : Nat) : Int) - 1 + (m : Int) * -1).toNat]? = xs[xs.size - 1 - m]?
    rw [e]
  rw [g, PySem.W.krv_range, List.filterMap_reverse, PySem.W.krv_all]
theorem tuple_back {t sl : Addr} {items : Array Value} {tk : Tok} {Q : Value → Shared → Prop} (ht : PyProof.Rows.IsTup s.heap t items) (hs : s.heap.IsSliceOf sl .none .none (.int (-1) tk))
    (h : Q (.ref s.heap.objs.size) { s with heap := s.heap.push { cls := .type "tuple", data := .seq items.toList.reverse.toArray } }) (hsz : items.size ≤ sizeLine) : wpAny (model prog w) A (getItem (.ref t) (.ref sl)) Q E s := by
  have hz : sizeOk (.seq items.toList.reverse.toArray) := by
    show items.toList.reverse.toArray.size ≤ sizeLine
    rw [List.size_toArray, List.length_reverse, Array.length_toList]
    exact hsz
  obtain ⟨os, hos, hcs, hds⟩ := id hs
  have hTs : s.TypeIs (.ref sl) "slice" := ⟨os, hos, hcs⟩
  unfold getItem
  try with_reducible refine wpAny_holding ?_
  first | refine wpAny_bind (wpAny_pure ?_) | skip
  refine wpAny_bind (wpAny_sequenceKey ht.typeIs (by decide) (wpAny_bind (wpAny_callSpecial?_slot (name := Str.ofString "__getitem__") ht.typeIs PyProof.Rows.slot_tuple_getitem (wpAny_call_entry PyProof.Rows.slot_tuple_getitem ht.typeIs PyProof.Rows.entry_tuple_getitem ?_ (PyProof.Rows.args_tuple_getitem _ _)))))
  show wpAny _ _ (Builtin.Tuple.tupleItemsOf (.ref t) >>= _) _ _ s
  refine wpAny_bind (PyProof.Rows.tupleItemsOf_ ht (wpAny_bind (wpAny_typeOf hTs ?_)))
  rw [if_pos (by decide)]
  refine wpAny_bind (step_back hs ?_)
  have hno : ¬ ((((items.size : Nat) : Int) - 1 == 0 && (-1 : Int) == 1 && items.size == items.size) = true) := by simp
  show wpAny _ _ (if (((items.size : Nat) : Int) - 1 == 0 && (-1 : Int) == 1 && items.size == items.size) = true then _ else _) _ _ s
  rw [if_neg hno, back_pick]
  first
    | exact wpAny_bind (m := Builtin.Tuple.tupleExact _) (wpAny_newObj_type (wpAny_pure ⟨_, rfl, wpAny_pure h⟩) hz)
    | exact wpAny_bind (m := Builtin.Tuple.tupleExact _) (wpAny_newObj_type (wpAny_bind (wpAny_pure (wpAny_pure ⟨_, rfl, wpAny_pure h⟩))) hz)
    | exact wpAny_bind (wpAny_bind (m := Builtin.Tuple.tupleExact _) (wpAny_newObj_type (wpAny_pure (wpAny_pure ⟨_, rfl, wpAny_pure h⟩)) hz))
    | exact wpAny_bind (wpAny_bind (m := Builtin.Tuple.tupleExact _) (wpAny_newObj_type (wpAny_pure ⟨_, rfl, wpAny_pure h⟩) hz))
end
section
variable {X : Cx} {S : Type} {B : Bs} {Γ : S → List Sl} {K : PySem.W.Frag} {α : Type} {R : α → Pd} {e : Expr}
def tRevT (K : PySem.W.Frag) (te : TE) : TE := fun σ H Q => te σ H fun x H1 => ∃ a xs, x = .ref a ∧ SqT K H1 a xs ∧ ∀ p, H1 p = none → Q (.ref p) (upd H1 p (.tup xs.reverse))
theorem pe_revT {te : TE} {k : Nat} {p1 p2 p3 pos : Pos} (he : PE X e te) : PE X (.Subscript e (.Slice none none (some (.UnaryOp .USub (.Constant (.int 1) k p1) p2)) p3) pos) (tRevT X.K te) := by
  refine ⟨fun pins s σ H Q I h => ?_⟩
  refine PyProof.Rows.Subscript_ (thn (he.run pins s σ H _ I h) fun v s1 ⟨x, H1, I1, r1, a, xs, ex, hx, q⟩ => ?_)
  subst ex
  cases r1
  have hst : PO X (some (.UnaryOp .USub (.Constant (.int 1) k p1) p2)) (tPart (tUn (rU fun i => .int (-i)) (tC (.int 1)))) := po_some (pe_un un_neg pe_int)
  refine PySem.wpAny_Slice (thn (po_none.run pins s1 σ H1 (fun o H2 => o = none ∧ H2 = H1) I1 ⟨rfl, rfl⟩) fun vl s2 ⟨l, H2, I2, pl, el, e2⟩ => thn (po_none.run pins s2 σ H2 (fun o H3 => o = none ∧ H3 = H2) I2 ⟨rfl, rfl⟩) fun vu s3 ⟨u, H3, I3, pu, eu, e3⟩ => ?_)
  subst el e2 eu e3
  refine thn (hst.run pins s3 σ H3 (fun o H4 => o = some (-1) ∧ H4 = H3) I3 ⟨1, rfl, -1, rfl, rfl, rfl⟩) fun vs s4 ⟨o, H4, I4, pq, eo, e4⟩ => ?_
  subst eo e4
  cases pl; cases pu
  obtain ⟨i, tk, ei⟩ : ∃ (i : Int) (tk : Tok), vs = .int (-1) tk := by cases pq; exact ⟨0, _, rfl⟩
  subst ei
  have I5 : Inv X pins σ H4 { s4 with heap := s4.heap.push { cls := .type "slice", data := .fields #[.none, .none, .int (-1) tk] } } := I4.kept (t' := s4.toks) fun b ob q => Heap.get?_push_of_some _ q
  obtain ⟨its, r, ht, hz⟩ := I5.tuple hx
  have hlen := r.length
  show wpAny (model X.prog X.w) X.A (PyProof.Rows.subscriptTail e (.Slice none none (some (.UnaryOp .USub (.Constant (.int 1) k p1) p2)) p3) (.ref a) (.ref s4.heap.objs.size)) (EP X pins σ Q) X.xe _
  refine PyProof.Rows.tail_any (ops := [.ref a, .ref s4.heap.objs.size]) ht.typeIs (PyProof.Rows.slot_tuple_getitem.lookup) ?_ (by with_unfolding_all rfl)
  refine tuple_back ht (Heap.IsSliceOf.new _ _ _ _) ?_ (by rw [List.size_toArray]; omega)
  refine ⟨.ref _, _, I5.laid (t' := s4.toks) (o := .tup xs.reverse) (fun b ob q => Heap.get?_push_of_some _ q) (Nat.le_refl _) ?_, rfl, q _ (I5.hok.fresh (Nat.le_refl _))⟩
  exact ⟨by rw [List.length_reverse]; exact hz, _, r.reverse, PyProof.Rows.IsTup.new _ _⟩
theorem te_revT {ma : S → (List α → S → Prop) → Prop} {k1 p1 p2 p3 pos} (ha : PE X e (tE B Γ (RTup K R) ma)) (hK : X.K = K := by rfl) : PE X (.Subscript e (.Slice none none (some (.UnaryOp .USub (.Constant (.int 1) k1 p1) p2)) p3) pos) (tE B Γ (RTup K R) (fun s K => ma s fun xs s1 => K xs.reverse s1)) := by
  subst hK
  refine pe_imp (pe_revT ha) fun σ H Q ⟨s, F, K', A, hm, k⟩ => ⟨s, F, _, A, hm, fun xs s1 v F1 H1 h1 A1 e1 ⟨q, vs, ev, hq, av⟩ => ⟨q, vs, ev, seqT_mono A1.sub hq, fun p np => ?_⟩⟩
  obtain ⟨A2, e2⟩ := A1.lay (o := .tup vs.reverse) np
  exact k _ s1 _ _ _ h1 A2 (e1.trans e2) ⟨p, _, rfl, SqT.of upd_same, av.reverse.mono e2⟩
end

/-! ### {e for x in xs}, e an int -/
section
variable {X : Cx}
/-- the new set D, its members S, n of them -/
abbrev SetGo (w : World) (D : Addr) (S : Int → Bool) (n : Nat) (c : Int) : HO := SetO w D (fun j => S j || decide (j = c)) (if S c = true then n else n + 1)
def tScI (w : World) (wi : TI) (g : TG) (te : TE) (vs : List Nat) : TE := fun σ H Q => wi σ H fun J H1 => ∀ D, H1 D = none →
  ∃ W : Nat → Nat → Hp → Prop, (∃ m, W 0 m (upd H1 D (SetO w D (fun _ => false) 0))) ∧ ∀ i m H, W i m H → (J.stop i H ∧ Q (.ref D) H) ∨
    (J.go i H ∧ ∃ Nx : Hp → Prop, (∀ H', Nx H' → ∃ m', m' < m ∧ W (i + 1) m' H') ∧ ∀ x H', J.yld i H x H' → g x (wipe σ vs) H' fun σ2 H2 => wipe σ2 vs = wipe σ vs ∧
      te σ2 H2 fun y H4 => ∃ (c : Int) (S : Int → Bool) (n : Nat), y = .int c ∧ H4 D = some (SetO w D S n) ∧ n + 1 < scanBound ∧ Nx (upd H4 D (SetGo w D S n c)))
theorem addI_ok {pins : List (Addr × Obj)} {σ : L2.St} {H : Hp} {s : Shared} {E : Value → Shared → Prop} {D : Addr} {S : Int → Bool} {n : Nat} {c : Int} {tk : Tok} {Q : Value → Shared → Prop} (I : Inv X pins σ H s) (hD : H D = some (SetO X.w D S n)) (room : n + 1 < scanBound)
    (h : ∀ s', Inv X pins σ (upd H D (SetGo X.w D S n c)) s' → Q .none s') : wpAny (model X.prog X.w) X.A (call (.builtin "set.add") [.ref D, .int c tk]) Q E s := by
  refine setR_add (setO_get I hD) room fun h' sb new => ?_
  refine h _ (I.write (e := D) (t' := s.toks + 1) (by rw [hD]; trivial) (.inl rfl) (fun b u hb hu => (sb.2 b hb).trans hu) ?_ (setO_new new))
  obtain ⟨o, _, _, _, ho, _⟩ := id new
  exact ⟨o, ho⟩
theorem pe_scI {elt tg iter : Expr} {scope : Scope} {own : List (Str × Nat)} {pos : Pos} {wi : TI} {g : TG} {te : TE} (hc : X.calm = true) (hN : X.N.Nodup) (hi : PI X tg iter wi) (ok : BlkOk X.N X.env.scope scope own)
    (hg : ∀ (s : Shared) (H : Hp) (C : Addr) (cl : List (Str × Addr)) (fp : List Addr), PG (X.blk s H scope (compEnvC scope cl C X.env) fp) tg g)
    (he : ∀ (s : Shared) (H : Hp) (C : Addr) (cl : List (Str × Addr)) (fp : List Addr), PE (X.blk s H scope (compEnvC scope cl C X.env) fp) elt te) (hs : ∀ x, foldedSetIterable iter X.env x = pure x := by intro _; rfl) :
    PE X (.SetComp elt [⟨tg, iter, [], 0⟩] scope pos) (tScI X.w wi g te (own.map (·.2))) := by
  refine ⟨fun pins s σ H Q I h => ?_⟩
  rw [PpSet.eval_SetComp]
  have hfree : ∀ y ∈ scope.names, y.2 = .free → ∃ c, X.env.cells.lookup y.1 = some c := fun y hy e => (ok.free y hy e).elim (fun k => I.ok.has _ (.inl k)) fun k => I.ok.has _ (.inr k)
  refine PySem.wpAny_comprehension_free (use := none) rfl hs (closure_ok hfree) ok.kind (fun y hy e => by rw [ok.uniq y hy, e]) (thn (hi.run pins s σ H _ I h) fun xv s1 hx => thn hx fun itv s2 ⟨it, fp, tn, J, H2, e, I2, T, st2, f2, q⟩ => ?_)
  subst e
  refine PpSet.newSet_ok (newEnv_comp ?_)
  generalize hD : s2.heap.objs.size = D
  have hDn : H2 D = none := I2.hok.fresh (Nat.le_of_eq hD)
  obtain ⟨W, ⟨m0, w0⟩, turn⟩ := q D hDn
  generalize hs3 : ({ s2 with heap := s2.heap.push { cls := .type "set", dict := none, data := .set #[] 0 (.fresh 0 0 (!X.w.params.followText "set-order")) } } : Shared) = s3
  have h3 : s3.heap = s2.heap.push { cls := .type "set", dict := none, data := .set #[] 0 (.fresh 0 0 (!X.w.params.followText "set-order")) } := by rw [← hs3]
  have I3 : Inv X pins σ (upd H2 D (SetO X.w D (fun _ => false) 0)) s3 := by
    rw [← hs3]
    refine I2.laid (t' := s2.toks) (fun b o e => Heap.get?_push_of_some _ e) (Nat.le_of_eq hD) ?_
    rw [← hD]
    exact setO_new (setR_fresh X.w)
  have lt : ∀ b ∈ fp, b < s2.heap.objs.size := fun b hb => (T.obj _ _ st2 b hb).elim fun o z => Heap.lt_size z.1
  have f3 : ∀ b ∈ fp, FpOk X pins (upd H2 D (SetO X.w D (fun _ => false) 0)) b ∧ b < s3.heap.objs.size := fun b hb =>
    ⟨⟨(upd_ne (by rw [← hD]; exact Nat.ne_of_lt (lt b hb))).trans (f2 b hb).1, (f2 b hb).2⟩, by rw [h3, Heap.size_push]; exact Nat.lt_succ_of_lt (lt b hb)⟩
  have st3 : tn 0 s3.heap := T.keep _ _ _ st2 fun b _ o e => by rw [h3]; exact Heap.get?_push_of_some _ e
  have I4 := block_start I3 ok hN f3
  generalize hcl : cellsFrom (s3.heap.objs.size + 1) scope.names (cloFrom X.env.cells scope.names []) = cl at I4
  have pg := hg s3 (upd H2 D (SetO X.w D (fun _ => false) 0)) s3.heap.objs.size cl fp
  have pe := he s3 (upd H2 D (SetO X.w D (fun _ => false) 0)) s3.heap.objs.size cl fp
  have nfp : ∀ b ∈ fp, (upd H2 D (SetO X.w D (fun _ => false) 0)) b = none := fun b hb => (f3 b hb).1.1
  show codeAny _ _ (.compStart (.SetComp elt [⟨tg, iter, [], 0⟩] scope pos) 0 (.ref it) (.ref D) (compEnvC scope cl s3.heap.objs.size X.env)) (compPost (model X.prog X.w) X.A X.xe none (EP X pins σ Q) (.ref D) s3.heap.objs.size) { s3 with heap := pushCells (s3.heap.push { cls := .type "dict", data := .dict #[] }) scope.names }
  generalize hce : compEnvC scope cl s3.heap.objs.size X.env = ce at I4 pg pe ⊢
  have cL : ce.locals = s3.heap.objs.size := by subst hce; rfl
  generalize hH3 : upd H2 D (SetO X.w D (fun _ => false) 0) = H3 at I3 I4 pg pe w0 nfp f3
  generalize hs4 : ({ s3 with heap := pushCells (s3.heap.push { cls := .type "dict", data := .dict #[] }) scope.names } : Shared) = s4 at I4 ⊢
  have st4 : tn 0 s4.heap := T.keep _ _ _ st3 fun b _ o e => by rw [← hs4]; exact pushCells_keeps _ _ _ _ (Heap.get?_push_of_some _ e)
  have stat : ∀ {σ' : L2.St} {H' : Hp} {s' : Shared}, Inv (X.blk s3 H3 scope ce fp) [] σ' H' s' → (∀ b ∈ fp, H' b = none) → ∀ b ∈ fp, FpOk (X.blk s3 H3 scope ce fp) [] H' b := fun {σ' H' s'} I' hn b hb =>
    ⟨hn b hb, (I'.ok.exf b hb).1, I'.ok.exfs b hb, .inl hb, fun x c e => (I'.ok.exf b hb).2 x c e, fun p hp => by cases (show p ∈ ([] : List (Addr × Obj)) from hp)⟩
  refine PpSet.codeAny_compStart_set ?loop (T.self X.A 0 _ _ _ st4 ?loop)
  refine PpSet.compLoopS_any (fun n s' => ∃ i H', Inv (X.blk s3 H3 scope ce fp) [] (wipe σ (own.map (·.2))) H' s' ∧ tn i s'.heap ∧ (∀ b ∈ fp, H' b = none) ∧ W i n H') ?_ m0 ⟨0, H3, I4, st4, nfp, w0⟩
  rintro n s5 ⟨i, H5, I5, st5, n5, w5⟩
  rcases turn i n H5 w5 with ⟨stop, qq⟩ | ⟨go, Nx, hNx, step⟩
  · refine thnF (T.done (X.blk s3 H3 scope ce fp) rfl rfl rfl hc i [] s5 _ H5 (fun _ _ => False) I5 (stat I5 n5) st5 stop) fun r s6 ⟨hr, I6⟩ => ?_
    subst hr
    have I7 : Inv X pins σ H5 s6 := I3.call' (ch := fp) I6.os I6.base I6.hok I6.bare fun b hb => ⟨(f3 b hb).1.2.2.2.1, (f3 b hb).1.2.1, (f3 b hb).1.2.2.2.2.1, (f3 b hb).1.2.2.2.2.2⟩
    have nC : H5 s3.heap.objs.size = none := cL ▸ (show H5 ce.locals = none from I6.free)
    obtain ⟨m, hn, _⟩ := I6.loc
    have hn : s6.heap.Ns s3.heap.objs.size m := cL ▸ (show s6.heap.Ns ce.locals m from hn)
    obtain ⟨g0, g1, g2, g3, g4, g5⟩ := I3.fpOk (H' := H5) (Nat.le_refl _) nC
    exact ⟨m, hn, fun h'' sb => ⟨.ref D, H5, I7.turned (t' := s6.toks) (fun b o hb e => (sb.2 b hb).trans e) g0 g1 g3 g4 g5, rfl, qq⟩⟩
  · refine thnF (T.item (X.blk s3 H3 scope ce fp) rfl rfl rfl hc i [] s5 _ H5 (fun _ _ => False) I5 (stat I5 n5) st5 go) fun r s6 ⟨u, hr, h6⟩ => ?_
    subst hr
    refine thnF h6 fun _ s7 ⟨x, H7, I7, r7, y7, st7, n7⟩ => ?_
    refine thnF (pg.run _ s7 _ H7 x u _ (I7.pinned (stat I7 n7) (T.obj _ _ st7)) r7 (step x H7 y7)) fun _ s8 ⟨σ8, H8, I8, hw8, q8⟩ => ?_
    refine thnF ((pts_nil (X := X.blk s3 H3 scope ce fp)).run _ s8 σ8 H8 (fun b H' => b = true ∧ H' = H8) I8 ⟨rfl, rfl⟩) fun b s9 ⟨H9, I9, eb, e9⟩ => ?_
    subst eb e9
    simp only [if_true]
    refine thnF (pe.run _ s9 σ8 H9 _ I9 q8) fun z s10 ⟨yv, H10, I10, r10, c, S0, n0, ey, hD10, hz10, nx⟩ => ?_
    subst ey
    obtain ⟨tk, ez⟩ := (show ∃ tk, z = Value.int c tk from r10)
    subst ez
    refine addI_ok (X := X.blk s3 H3 scope ce fp) I10 hD10 hz10 fun s11 I11 => ?_
    obtain ⟨m', hm, w'⟩ := hNx _ nx
    have pin' : ∀ b ∈ fp, ∀ o, s7.heap.get? b = some o → s11.heap.get? b = some o ∧ (upd H10 D (SetGo X.w D S0 n0 c)) b = none := fun b hb o e =>
      let zz := I11.pin (b, o) (List.mem_append_right _ (List.mem_append_right _ (mem_pinsAt hb e)))
      ⟨zz.1, zz.2.1⟩
    refine ⟨m', hm, i + 1, _, (I11.unpinned (pins := [])).weak (by rw [← hw8, wipe_length]) (fun j v e => ?_), T.keep _ _ _ st7 fun b hb o e => (pin' b hb o e).1, fun b hb => ?_, w'⟩
    · rw [← hw8] at e
      exact (wipe_some e).1
    · obtain ⟨o, e, _⟩ := T.obj _ _ st7 b hb
      exact (pin' b hb o e).2
end
end TL
namespace TL
open PySem L2

/-! ### sets of ints, sorted -/
/-- one int into a rising list -/
def insU (c : Int) : List Int → List Int
  | [] => [c]
  | x :: xs => if c < x then c :: x :: xs else if c = x then x :: xs else x :: insU c xs
def sortU (ys : List Int) : List Int := ys.foldl (fun l c => insU c l) []
theorem insU_mem (c : Int) : ∀ (l : List Int) (k : Int), k ∈ insU c l ↔ k = c ∨ k ∈ l
  | [], k => by simp [insU]
  | x :: xs, k => by
    unfold insU
    split
    · simp [List.mem_cons]
    · split
      · rename_i h; subst h; simp [List.mem_cons]
      · rw [List.mem_cons, insU_mem c xs k, List.mem_cons]
        constructor
        · rintro (h | h | h)
          · exact .inr (.inl h)
          · exact .inl h
          · exact .inr (.inr h)
        · rintro (h | h | h)
          · exact .inr (.inl h)
          · exact .inl h
          · exact .inr (.inr h)
theorem insU_up (c : Int) : ∀ {l : List Int}, l.Pairwise (· < ·) → (insU c l).Pairwise (· < ·)
  | [], _ => by simp [insU]
  | x :: xs, h => by
    obtain ⟨h1, h2⟩ := List.pairwise_cons.mp h
    unfold insU
    split
    · rename_i hc
      refine List.pairwise_cons.mpr ⟨fun y hy => ?_, h⟩
      rcases List.mem_cons.mp hy with e | e
      · subst e; exact hc
      · exact Int.lt_trans hc (h1 y e)
    · split
      · exact h
      · rename_i hc hn
        refine List.pairwise_cons.mpr ⟨fun y hy => ?_, insU_up c h2⟩
        rcases (insU_mem c xs y).mp hy with e | e
        · subst e; omega
        · exact h1 y e
theorem insU_len (c : Int) : ∀ {l : List Int}, l.Pairwise (· < ·) → (insU c l).length = if c ∈ l then l.length else l.length + 1
  | [], _ => by simp [insU]
  | x :: xs, h => by
    obtain ⟨h1, h2⟩ := List.pairwise_cons.mp h
    unfold insU
    split
    · rename_i hc
      rw [if_neg]
      · rfl
      · intro hm
        rcases List.mem_cons.mp hm with e | e
        · omega
        · have := h1 c e; omega
    · split
      · rename_i hc hn
        subst hn
        rw [if_pos List.mem_cons_self]
      · rename_i hc hn
        rw [List.length_cons, insU_len c h2]
        by_cases hm : c ∈ xs
        · rw [if_pos hm, if_pos (List.mem_cons_of_mem _ hm), List.length_cons]
        · rw [if_neg hm, if_neg (by
            intro z
            rcases List.mem_cons.mp z with e | e
            · exact hn e
            · exact hm e), List.length_cons]
theorem sortU_snoc (ys : List Int) (c : Int) : sortU (ys ++ [c]) = insU c (sortU ys) := by
  unfold sortU
  rw [List.foldl_append]
  rfl
theorem foldU_up : ∀ (ys l : List Int), l.Pairwise (· < ·) → (ys.foldl (fun l c => insU c l) l).Pairwise (· < ·)
  | [], _, h => h
  | y :: ys, l, h => foldU_up ys _ (insU_up y h)
theorem sortU_up (ys : List Int) : (sortU ys).Pairwise (· < ·) := foldU_up ys [] List.Pairwise.nil
theorem foldU_mem : ∀ (ys l : List Int) (k : Int), k ∈ ys.foldl (fun l c => insU c l) l ↔ k ∈ ys ∨ k ∈ l
  | [], l, k => by simp
  | y :: ys, l, k => by
    rw [List.foldl_cons, foldU_mem ys, insU_mem, List.mem_cons]
    constructor
    · rintro (h | h | h)
      · exact .inl (.inr h)
      · exact .inl (.inl h)
      · exact .inr h
    · rintro ((h | h) | h)
      · exact .inr (.inl h)
      · exact .inl h
      · exact .inr (.inr h)
theorem sortU_mem (ys : List Int) (k : Int) : k ∈ sortU ys ↔ k ∈ ys := by
  unfold sortU
  rw [foldU_mem]
  simp
theorem up_unique : ∀ {l l' : List Int}, l.Pairwise (· < ·) → l'.Pairwise (· < ·) → (∀ k, k ∈ l ↔ k ∈ l') → l = l'
  | [], [], _, _, _ => rfl
  | [], y :: _, _, _, h => by have := (h y).mpr List.mem_cons_self; simp at this
  | x :: _, [], _, _, h => by have := (h x).mp List.mem_cons_self; simp at this
  | x :: xs, y :: ys, h1, h2, h => by
    obtain ⟨a1, a2⟩ := List.pairwise_cons.mp h1
    obtain ⟨b1, b2⟩ := List.pairwise_cons.mp h2
    have e : x = y := by
      rcases List.mem_cons.mp ((h x).mp List.mem_cons_self) with z | z
      · exact z
      · rcases List.mem_cons.mp ((h y).mpr List.mem_cons_self) with z' | z'
        · exact z'.symm
        · have := b1 x z; have := a1 y z'; omega
    subst e
    congr 1
    refine up_unique a2 b2 fun k => ?_
    constructor
    · intro hk
      rcases List.mem_cons.mp ((h k).mp (List.mem_cons_of_mem _ hk)) with z | z
      · have := a1 k hk; omega
      · exact z
    · intro hk
      rcases List.mem_cons.mp ((h k).mpr (List.mem_cons_of_mem _ hk)) with z | z
      · have := b1 k hk; omega
      · exact z
def RSet (w : World) (ys : List Int) : Pd := ⟨fun v F => ∃ a S, v = .ref a ∧ F a = some (SetO w a S (sortU ys).length) ∧ ∀ k, S k = true ↔ k ∈ ys, fun _ _ _ e ⟨a, S, h1, h2, h3⟩ => ⟨a, S, h1, e _ _ h2, h3⟩⟩
section
variable {X : Cx} {S S' : Type} {B : Bs} {Γ : S → List Sl} {K : PySem.W.Frag} {α β : Type} {R Ra : α → Pd} {Rb : β → Pd} {e tg it elt : Expr} {pos p : Pos} {x : Str} {scope : Scope} {own : List (Str × Nat)} {g : TG} {js : List Nat} {up : List Sl → α → List Sl}
theorem sc_read {w : World} {vs : List Nat} (tgt : Tg g R js up) {Γp : S → List Sl} {mi : S → (List α → S → Prop) → Prop} {me : S → α → (Int → Prop) → Prop} (hp : ∀ s, Pur (Γ s) (Γp s)) (hj : ∀ j ∈ js, j ∈ vs) (hv : ∀ s, ∀ i ∈ vs, (Γp s)[i]? = some .any ∨ (Γp s)[i]? = none) {σ : L2.St} {H : Hp} {Q : VK}
    (q : tE B Γ (RSet w) (fun s K => mi s fun xs s1 => xs.length ≤ 4000 ∧ mMap xs (me s1) fun ys => K ys s1) σ H Q) :
    tScI w (tI B Γ R mi) g (fun σ H Q => ∃ i : S × α × Bs, tE i.2.2 (fun _ : Unit => up (Γp i.1) i.2.1) RInt (fun _ K => me i.1 i.2.1 fun y => K y ()) σ H Q) vs σ H Q := by
  obtain ⟨s, F, K', A, hm, k⟩ := q
  refine ⟨s, F, _, A, hm, fun xs s1 J F1 H1 ⟨hz, h1⟩ A1 e1 src => ?_⟩
  intro D hD
  have bD := A1.beside hD
  refine ⟨fun i mm H' => ∃ Fi Sm ys, mm = xs.length - i ∧ i ≤ xs.length ∧ Same F1 Fi ∧ At B (Γ s1) σ Fi H' ∧ H' D = some (SetO w D Sm (sortU ys).length) ∧ Fi D = none ∧ (∀ k, Sm k = true ↔ k ∈ ys) ∧ ys.length = i ∧ mMap (xs.drop i) (me s1) fun zs => K' (ys ++ zs) s1, ?_, ?_⟩
  · refine ⟨xs.length, F1, fun _ => false, [], by simp, Nat.zero_le _, Same.refl _, A1.layH hD, upd_same, bD.1, by simp, rfl, ?_⟩
    simpa using h1
  · rintro i mm H' ⟨Fi, Sm, ys, rfl, hi, eF, Ai, hDi, fDi, hS, hyl, hk⟩
    obtain ⟨s1', s2', s3'⟩ := src Fi H' eF Ai.sub
    by_cases hlt : i < xs.length
    · refine .inr ⟨s2' i hlt, fun H'' => ∃ Fi Sm ys, i + 1 ≤ xs.length ∧ Same F1 Fi ∧ At B (Γ s1) σ Fi H'' ∧ H'' D = some (SetO w D Sm (sortU ys).length) ∧ Fi D = none ∧ (∀ k, Sm k = true ↔ k ∈ ys) ∧ ys.length = i + 1 ∧ mMap (xs.drop (i + 1)) (me s1) fun zs => K' (ys ++ zs) s1, fun H'' ⟨F3, S3, y3, q1, q2, q3, q4, q5, q6, q7, q8⟩ => ⟨xs.length - (i + 1), by omega, F3, S3, y3, rfl, q1, q2, q3, q4, q5, q6, q7, q8⟩, fun v H2 hy => ?_⟩
      obtain ⟨F2, f1, f2, f3, f4, f5⟩ := s3' i xs[i] v H2 (List.getElem?_eq_getElem hlt) hy
      have A2 := Ai.grow f1 f2 f3 f4
      have hD2 := f2 _ _ hDi
      have fD2 : F2 D = none := f4.no fDi hDi
      rw [List.drop_eq_getElem_cons hlt] at hk
      obtain ⟨pf, po⟩ := fits_pure (F' := F2) (H' := H2) (σ' := wipe σ vs) vs (hp s1) A2.fit (fun i hi => wipe_out hi) (wipe_length σ vs) (hv s1)
      have A3 : At ⟨F2, H2, fun _ => False, []⟩ (Γp s1) (wipe σ vs) F2 H2 := ⟨A2.sub, Same.refl _, fun a o e _ => e, fun a o e => .inl e, pf, by rw [po]; exact List.Pairwise.nil, fun a hb => hb.elim, fun _ z => nomatch z⟩
      refine tgt.run A3 f5 fun σ' A4 hw => ?_
      refine ⟨by rw [hw vs hj, wipe_wipe fun _ z => z], ⟨s1, xs[i], ⟨F2, H2, fun _ => False, []⟩⟩, (), F2, fun y (_ : Unit) => mMap (xs.drop (i + 1)) (me s1) fun zs => K' (ys ++ (y :: zs)) s1, A4, hk, fun y _ u F6 H6 h6 A6 e6 r6 => ?_⟩
      have sH : Same H2 H6 := fun a o e => A6.kept a o e id
      have nw : Nw F2 H2 F6 := fun a o e => A6.new a o e
      have B6 := A2.grow A6.ext sH A6.sub nw
      have hD6 := sH _ _ hD2
      have r6 : u = .int y := r6
      subst r6
      have hl : (sortU ys).length ≤ ys.length := by
        have go : ∀ zs l : List Int, (zs.foldl (fun l c => insU c l) l).length ≤ zs.length + l.length := by
          intro zs
          induction zs with
          | nil => intro l; simp
          | cons z zs ih =>
            intro l
            have h2 : (insU z l).length ≤ l.length + 1 := by
              induction l with
              | nil => simp [insU]
              | cons q l ihl => unfold insU; split <;> (try split) <;> simp at * <;> omega
            have := ih (insU z l)
            rw [List.foldl_cons, List.length_cons]
            omega
        have := go ys []
        simpa [sortU] using this
      refine ⟨y, Sm, _, rfl, hD6, by have : scanBound = 4096 := rfl; omega, F6, fun j => Sm j || decide (j = y), ys ++ [y], hlt, (eF.trans f1).trans e6, B6.poke hD6 (nw.no fD2 hD2) bD.2.1 bD.2.2, ?_, nw.no fD2 hD2, fun k => ?_, by rw [List.length_append, List.length_singleton, hyl], by simpa using h6⟩
      · rw [upd_same, sortU_snoc, insU_len y (sortU_up ys)]
        show some (SetO w D (fun j => Sm j || decide (j = y)) (if Sm y = true then (sortU ys).length else (sortU ys).length + 1)) = _
        by_cases hm : y ∈ sortU ys
        · have hS' : Sm y = true := (hS y).mpr ((sortU_mem ys y).mp hm)
          rw [if_pos hm, if_pos hS']
        · have hS' : ¬ Sm y = true := fun z => hm ((sortU_mem ys y).mpr ((hS y).mp z))
          rw [if_neg hm, if_neg hS']
      · rw [Bool.or_eq_true, decide_eq_true_eq, hS k, List.mem_append, List.mem_singleton]
    · have e : i = xs.length := by omega
      subst e
      refine .inl ⟨s1' _ (Nat.le_refl _), ?_⟩
      rw [List.drop_length] at hk
      have hk : K' (ys ++ []) s1 := hk
      rw [List.append_nil] at hk
      obtain ⟨A5, e5⟩ := Ai.know fDi hDi bD.2.1 bD.2.2
      exact k ys s1 _ _ H' hk A5 ((e1.trans eF).trans e5) ⟨D, Sm, rfl, upd_same, hS⟩
theorem te_setI {mi : S → (List α → S → Prop) → Prop} {me : S → α → Unit → (Int → Unit → Prop) → Prop} (nd : X.N.Nodup) (hi : PI X tg it (tI B Γ R mi)) (ok : BlkOk X.N X.env.scope scope own)
    (hg : ∀ (s : Shared) (H : Hp) (C : Addr) (cl : List (Str × Addr)) (fp : List Addr), PG (X.blk s H scope (compEnvC scope cl C X.env) fp) tg g) (tgt : Tg g R js up)
    (he : ∀ (s1 : S) (x : α) (B' : Bs) (s : Shared) (H : Hp) (C : Addr) (cl : List (Str × Addr)) (fp : List Addr), PE (X.blk s H scope (compEnvC scope cl C X.env) fp) elt (tE B' (fun _ : Unit => up (pureFrom (own.map (·.2)) 0 (Γ s1)) x) RInt (me s1 x)))
    (hj : ∀ j ∈ js, j ∈ own.map (·.2) := by decide) (hc : X.calm = true := by rfl) (hs : ∀ x, foldedSetIterable it X.env x = pure x := by intro _; rfl) :
    PE X (.SetComp elt [⟨tg, it, [], 0⟩] scope pos) (tE B Γ (RSet X.w) (fun s K => mi s fun xs s1 => xs.length ≤ 4000 ∧ mMap xs (fun x K => me s1 x () fun y _ => K y) fun ys => K ys s1)) :=
  pe_imp (pe_scI hc nd hi ok hg (fun s H C cl fp => pe_ex fun i : S × α × Bs => he i.1 i.2.1 i.2.2 s H C cl fp) hs)
    fun σ H Q q => sc_read (me := fun s1 x K => me s1 x () fun y _ => K y) tgt (fun s => pur_pure _ 0 _) hj (fun s i hi => pure_any _ 0 _ i (by simpa using hi)) q
theorem tn_sortedSet {ma : S → (List Int → S → Prop) → Prop} (P : BP X "sorted" (.builtin "sorted")) (ha : PE X e (tE B Γ (RSet X.w) ma)) (hc : X.calm = true := by rfl) (hs : starEach [e] X.env = (false, eval e X.env) :: starEach [] X.env := by rfl) (hpl : (backTo pos (starEach [] X.env)).any (·.1) = false := by rfl) :
    PE X (.Call (.Name "sorted" p) [e] [] pos) (tN B Γ RInt (fun s K => ma s fun y s1 => (sortU y).length < 64 ∧ K (sortU y) s1)) :=
  pe_imp (pe_bf P (cr_sortedSet hc) (pa_cons ha pa_nil hs) hs hpl) fun σ H Q ⟨s, F, K', A, hm, k⟩ => ⟨s, F, _, A, hm, fun y s1 v F1 H1 ⟨hz, h1⟩ A1 e1 ⟨q, Sm, ev, hq, hS⟩ => ⟨q, Sm, _, by rw [ev], A1.sub _ _ hq, hz, fun ns p hup hns hl np => by
    have e : ns = sortU y := up_unique hup (sortU_up y) fun k => by rw [hns k, hS k, sortU_mem]
    subst e
    have fr := A1.fresh np
    exact k _ s1 p _ F1 _ h1 (A1.layH np) e1 upd_same fr.1 fr.2 (A1.notOwn np) (AllR.ints.mpr rfl)⟩⟩
end

/-! ### instances by their attributes -/
def FOk : List (Str × Pd) → List (Str × V) → Hp → Prop
  | [], [], _ => True
  | (n, P) :: fl, (n', v) :: fs, F => n' = n ∧ P.p v F ∧ FOk fl fs F
  | _, _, _ => False
theorem FOk.mono {F F' : Hp} (e : Same F F') : ∀ {fl : List (Str × Pd)} {fs : List (Str × V)}, FOk fl fs F → FOk fl fs F'
  | [], [], _ => trivial
  | (_, P) :: _, (_, _) :: _, ⟨h1, h2, h3⟩ => ⟨h1, P.mono _ _ _ e h2, FOk.mono e h3⟩
theorem FOk.some {F : Hp} {n : Str} {P : Pd} : ∀ {fl : List (Str × Pd)} {fs : List (Str × V)}, FOk fl fs F → fl.lookup n = some P → ∃ v, fs.lookup n = some v ∧ P.p v F
  | [], [], _, h => by simp at h
  | (m, P') :: fl, (m', v) :: fs, ⟨h1, h2, h3⟩, h => by
    subst h1
    rw [List.lookup_cons] at h ⊢
    cases q : n == m' with
    | true => rw [q] at h; cases h; exact ⟨v, rfl, h2⟩
    | false => rw [q] at h; exact FOk.some h3 h
theorem FOk.none {F : Hp} {n : Str} : ∀ {fl : List (Str × Pd)} {fs : List (Str × V)}, FOk fl fs F → fl.lookup n = none → fs.lookup n = none
  | [], [], _, _ => rfl
  | (m, P') :: fl, (m', v) :: fs, ⟨h1, h2, h3⟩, h => by
    subst h1
    rw [List.lookup_cons] at h ⊢
    cases q : n == m' with
    | true => rw [q] at h; cases h
    | false => rw [q] at h; exact FOk.none h3 h
theorem FOk.len {F : Hp} : ∀ {fl : List (Str × Pd)} {fs : List (Str × V)}, FOk fl fs F → fs.length = fl.length
  | [], [], _ => rfl
  | _ :: _, _ :: _, ⟨_, _, h⟩ => by simp [FOk.len h]
theorem FOk.put {F : Hp} {n : Str} {P : Pd} {v : V} (hv : P.p v F) : ∀ {fl : List (Str × Pd)} {fs : List (Str × V)}, FOk fl fs F → fl.lookup n = Option.none → FOk (fl ++ [(n, P)]) (putF n v fs) F
  | [], [], _, _ => ⟨rfl, hv, trivial⟩
  | (m, P') :: fl, (m', u) :: fs, ⟨h1, h2, h3⟩, h => by
    subst h1
    rw [List.lookup_cons] at h
    cases q : n == m' with
    | true => rw [q] at h; cases h
    | false =>
      rw [q] at h
      have hn : ¬ m' = n := fun z => by subst z; simp at q
      show FOk ((m', P') :: (fl ++ [(n, P)])) (if m' = n then (m', v) :: fs else (m', u) :: putF n v fs) F
      rw [if_neg hn]
      exact ⟨rfl, h2, FOk.put hv h3 h⟩
def RIns (C : Addr) (fl : List (Str × Pd)) : Pd := ⟨fun v F => ∃ a dx fs, v = .ref a ∧ F a = some (.ins C dx fs) ∧ FOk fl fs F, fun _ _ _ e ⟨a, dx, fs, h1, h2, h3⟩ => ⟨a, dx, fs, h1, e _ _ h2, h3.mono e⟩⟩
def OIns (C : Addr) (fl : List (Str × Pd)) : Od := ⟨fun o F => ∃ dx fs, o = .ins C dx fs ∧ FOk fl fs F, fun _ _ _ e ⟨dx, fs, h1, h2⟩ => ⟨dx, fs, h1, h2.mono e⟩⟩
section
variable {α β : Type} {C : Addr} {fl : α → List (Str × Pd)} {mn : Str}
theorem insR (h : ∀ x, (fl x).lookup mn = none) : InsR (fun x => RIns C (fl x)) C mn := fun x v F ⟨a, dx, fs, h1, h2, h3⟩ => ⟨a, dx, fs, h1, h2, h3.none (h x)⟩
theorem isI : IsI (fun x => RIns C (fl x)) C := fun x v F ⟨a, dx, fs, h1, h2, h3⟩ => ⟨a, dx, fs, h1, h2⟩
theorem fldR {Rb : β → Pd} {get : α → β} (h : ∀ x, (fl x).lookup mn = some (Rb (get x))) : FldR (fun x => RIns C (fl x)) C mn Rb get := fun x v F ⟨a, dx, fs, h1, h2, h3⟩ => by
  obtain ⟨w, h4, h5⟩ := h3.some (h x)
  exact ⟨a, dx, fs, w, h1, h2, h4, h5⟩
end
/-- the end of an __init__ -/
def xI {α : Type} (B : Bs) (C a : Addr) (fl : α → List (Str × Pd)) (Kf : α → Prop) : Xt := { nx := fun _ F H => ∃ r o, Kf r ∧ Fin B F H ∧ F a = none ∧ H a = some o ∧ (OIns C (fl r)).p o F, rt := fun _ _ _ => False }
section
variable {X : Cx} {S S' T : Type} {B : Bs} {Γ : S → List Sl} {K : PySem.W.Frag} {α β : Type} {R : α → Pd} {e : Expr} {pos p p' : Pos} {xn fn : Str} {P : Xt} {rest : List Stmt} {C a : Addr} {m : S → (α → S → Prop) → Prop}
/-- self.f = e in an __init__ -/
theorem ts_self {mr : α → S → Prop} {i : Nat} {fl : S → List (Str × Pd)} (he : PE X e (tE B Γ R m)) (c : Cls X.K C) (hn : NoAttr X.K C fn) (hr : ∀ x, PSs X rest (tS B (fun s => (Γ s).set i (.bo a (OIns C (fl s ++ [(fn, R x)])))) P (mr x)))
    (hG : ∀ s, (Γ s)[i]? = some (.bo a (OIns C (fl s))) := by intro _; rfl) (hl : ∀ s, (fl s).lookup fn = none ∧ (fl s).length < 1000 := by intro _; exact ⟨by decide +kernel, by show _ < 1000; decide⟩) (hN : X.N[i]? = some xn := by rfl) (hv : Vis X.env.scope xn := by first | exact Or.inl rfl | exact Or.inr (Or.inl rfl) | exact Or.inr (Or.inr rfl)) (hd : (xn == ("__debug__" : Str)) = false := by decide) (hcd : (xn == ("__classdict__" : Str)) = false := by decide)
    (hs : swapsWith e (some (.Attribute (.Name xn p) fn p')) pos.line X.env = pure false := by rfl) :
    PSs X (.Assign [.Attribute (.Name xn p) fn p'] e pos :: rest) (tS B Γ P (fun s => m s fun x s1 => mr x s1)) :=
  pss_imp (pss_cons (ps_fld (pe_var hN hv hd hcd) he hs) (pss_ex hr)) fun D σ H ⟨s, F, A, hm, L⟩ => ⟨s, F, _, A, hm, fun x s1 v F1 H1 h1 A1 e1 r1 => by
    obtain ⟨o, h2, h3, h4, ⟨dx, fs, ho, hf⟩, h5⟩ := A1.bo (hG s1)
    subst ho
    obtain ⟨l1, l2⟩ := hl s1
    refine ⟨_, h2, a, C, dx, fs, rfl, h4, c, hn, by rw [hf.len]; exact l2, x, s1, F1, A1.writeB (hG s1) ⟨dx, _, rfl, hf.put r1 l1⟩, h1, L⟩⟩
/-- self.f in an __init__ -/
theorem te_self {i : Nat} {fl : S → List (Str × Pd)} {f : S → α} (c : Cls X.K C) (hn : NoAttr X.K C fn) (hG : ∀ s, (Γ s)[i]? = some (.bo a (OIns C (fl s)))) (hl : ∀ s, (fl s).lookup fn = some (R (f s))) (hN : X.N[i]? = some xn := by rfl) (hv : Vis X.env.scope xn := by first | exact Or.inl rfl | exact Or.inr (Or.inl rfl) | exact Or.inr (Or.inr rfl)) (hd : (xn == ("__debug__" : Str)) = false := by decide) (hcd : (xn == ("__classdict__" : Str)) = false := by decide)
    (hb : attributeBase (.Name xn p) fn X.env (eval (.Name xn p) X.env) = eval (.Name xn p) X.env := by rfl) : PE X (.Attribute (.Name xn p) fn pos) (tE B Γ R (fun s K => K (f s) s)) :=
  pe_imp (pe_fld (pe_var hN hv hd hcd) hb) fun σ H Q ⟨s, F, K', A, hm, k⟩ => by
    obtain ⟨o, h2, h3, h4, ⟨dx, fs, ho, hf⟩, h5⟩ := A.bo (hG s)
    subst ho
    obtain ⟨w, g1, g2⟩ := hf.some (hl s)
    exact ⟨_, h2, a, C, dx, fs, w, rfl, h4, c, hn, g1, k _ s w F H hm A (Same.refl F) g2⟩
theorem ts_selfEnd {Kf : β → Prop} {i : Nat} {fl : S → List (Str × Pd)} {flr : β → List (Str × Pd)} (r : S → β) (hG : ∀ s, (Γ s)[i]? = some (.bo a (OIns C (fl s)))) (hf : ∀ s, fl s = flr (r s)) (hP : P.nx = (xI B C a flr Kf).nx := by rfl) : PSs X [] (tS B Γ P (fun s => Kf (r s))) :=
  pss_imp pss_nil fun D σ H ⟨s, F, A, hm, L⟩ => L.nx σ F H (by
    obtain ⟨o, h2, h3, h4, ho, h5⟩ := A.bo (hG s)
    rw [hP]
    exact ⟨r s, o, hm, A.fin, h3, h4, by rw [← hf]; exact ho⟩)
end
section
variable {P : Program} {w : World} {K : PySem.W.Frag} {mg : Str → Option Value} {base : Heap} {xq qual : Str} {st : Stmt} {f C : Addr} {fd : FuncData} {N ps : List Str} {k : Nat} {ι α : Type} {As : ι → List Pd} {fl : α → List (Str × Pd)}
theorem fnI {mf : ι → (α → Prop) → Prop} (F : Fun K xq qual st f fd) (Sc : FnScope N ps (defScope st)) (hl : ∀ y, (As y).length + 1 = ps.length)
    (hb : ∀ (cdv : Value) (A : Around) (outer : List Env) (s : Shared) (H : Hp) (E : XK), Room k (A.deeper (PyProof.Rows.envOfC qual (defScope st) s.heap.objs.size f cdv)) → ∀ (a : Addr) (y : ι) (Kf : α → Prop) (B : Bs),
      PSs (cxOf CX0 P w K mg base N qual (defScope st) f cdv A outer s H E).nox (defBody st) (tS B (fun _ : Unit => .bo a (OIns C []) :: ((As y).map .im ++ List.replicate (N.length - (As y).length - 1) .any)) (xI B C a fl Kf) (fun _ => mf y Kf))) : FnOk P w K mg base CX0 (k + 1) f fd ps (spI C As (fun r => RIns C (fl r)) mf) := by
  refine F.ok Sc (fun vs H Q E ⟨y, F, K', a, dx, ws, h1, h2, _⟩ => by rw [h1, List.length_cons, h2.len, hl]) fun cdv A outer s H vs Q E hr ⟨y, F0, K', a, dx, ws, h0, h1, h2, hj1, hj2, hj3, hj4, hj5, h3, h4⟩ => ⟨_, hb cdv A outer s H E hr a y K' ⟨F0, H, fun b => b = a, []⟩, (), F0, ?_, h3, ?_⟩
  · subst h0
    have hN : (As y).length + 1 ≤ N.length := by
      rw [hl]
      have := congrArg List.length Sc.pre
      rw [List.length_take] at this
      omega
    have hv : ws.length = (As y).length := h1.len
    obtain ⟨r1, r2⟩ := fits_start (B := ⟨F0, H, fun b => b = a, []⟩) (H := H) (N.length - (As y).length - 1) h1
    have es : L2.start N (.ref a :: ws) = some (.ref a) :: (ws.map some ++ List.replicate (N.length - (As y).length - 1) none) := by
      unfold L2.start
      rw [List.map_cons, List.cons_append, List.length_cons, hv, Nat.sub_add_eq]
    refine ⟨h2, Same.refl _, fun a o e _ => e, fun a o e => .inl e, ?_, ?_, fun b z => ?_, fun _ z => nomatch z⟩
    · rw [es]
      exact ⟨⟨_, rfl, hj1, hj4, ⟨dx, [], rfl, trivial⟩, rfl⟩, r1⟩
    · rw [es]
      show ([a] ++ owA _ _).Nodup
      rw [r2]
      simp
    · have z : b = a := z
      subst z
      exact ⟨hj1, ⟨_, hj4⟩, _, hj4⟩
  · refine ⟨fun σ F' H' ⟨r, o, q1, ⟨q3, q4, q5, q6⟩, q7, q8, ⟨dx', fs, q9, q10⟩⟩ => ?_, fun _ _ _ z => z.elim, fun _ _ _ z => z.elim, fun _ _ _ z => z.elim⟩
    have sF : Same F' (upd F' a o) := same_upd q7
    refine h4 r (upd F' a o) H' q1 ⟨a, dx', fs, rfl, by rw [upd_same, q9], q10.mono sF⟩ (q3.trans sF) (fun b u nb e => q5 b u e nb) (fun b u e => ?_) fun b u e => ?_
    · by_cases hb : b = a
      · subst hb; rw [upd_same] at e; cases e; exact q8
      · rw [upd_ne hb] at e; exact q4 _ _ e
    · by_cases hb : b = a
      · exact .inr (.inl hb)
      · rw [upd_ne hb] at e
        rcases q6 b u e with z | z
        · exact .inl z
        · exact .inr (.inr z)
end
end TL
namespace TL
open PySem L2
def memB {α : Type} [DecidableEq α] (x : α) (xs : List α) : Bool := decide (x ∈ xs)

section
variable {X : Cx} {S S' : Type} {B : Bs} {Γ : S → List Sl} {Γj : S' → List Sl} {K : PySem.W.Frag} {α β γ ι T : Type} {R Ra : α → Pd} {Rb : β → Pd} {e a b c : Expr} {es : List Expr} {pos p : Pos} {x xn : Str} {P : Xt} {st : Stmt} {rest : List Stmt} {k : Nat} {f : Addr} {fd : FuncData} {ps : List Str}
variable {m ma : S → (α → S → Prop) → Prop} {mb : S → (β → S → Prop) → Prop} {O : T → Od} {As : ι → List Pd} {mr : S → (ι → S → Prop) → Prop}

theorem dat_lst {d : α → PyData} {n : Nat} (h : Dat K R d n) : Dat K (RLst R) (fun xs => .list (xs.map d)) (n + 1) :=
  ⟨fun x v F ⟨a, vs, h1, h2, h3⟩ => by subst h1; exact .lst (SqL.of h2) (dpAll (fun x v => h.dp x v F) h3), fun x => canAll h.lay x, fun x y => eqvAll_iff h.inj x y, fun x => by
    show PyData.depthAll (x.map d) + 1 ≤ n + 1
    exact Nat.succ_le_succ (depAll h.dep x)⟩
theorem cr_in [DecidableEq α] {d : α → PyData} {n : Nat} (hK : X.K = K) (hu : X.A.units + 65 < cLine) (h : Dat K R d n) (hn : n ≤ 50 := by decide) : CR X .In R (RLst R) (fun x xs => memB x xs) := by
  show CR X .In R (RLst R) (fun x xs => decide (x ∈ xs))
  subst hK
  refine ⟨_, op_inD hu, OpU.g fun x xs v w F H Q hx hy e q => ?_⟩
  obtain ⟨a, vs, h1, h2, h3⟩ := hy
  subst h1
  refine ⟨d x, xs.map d, Dp.same e (h.dp _ _ _ hx), .lst (SqL.of (e _ _ h2)) (dpAllH rfl h e h3), h.sh (by omega) x, (dat_lst h).sh (by omega) xs, ?_⟩
  refine q _ ?_
  show V.bl _ = V.bl _
  congr 1
  induction xs with
  | nil => rfl
  | cons y ys ih =>
    have hh : List.any (List.map d (y :: ys)) (fun z => PyData.eqv z (d x)) = (PyData.eqv (d y) (d x) || List.any (List.map d ys) fun z => PyData.eqv z (d x)) := rfl
    rw [hh, h.eqv]
    cases vs with
    | nil => exact h3.elim
    | cons v' vs' =>
      have : List.any (List.map d ys) (fun z => PyData.eqv z (d x)) = decide (x ∈ ys) := by
        clear ih h2 q hh
        clear h3
        induction ys with
        | nil => rfl
        | cons z zs ih2 =>
          have h5 : List.any (List.map d (z :: zs)) (fun z => PyData.eqv z (d x)) = (PyData.eqv (d z) (d x) || List.any (List.map d zs) fun z => PyData.eqv z (d x)) := rfl
          rw [h5, h.eqv, ih2]
          by_cases e1 : z = x
          · subst e1; simp
          · by_cases e2 : x ∈ zs
            · simp [e1, e2]
            · have : ¬ x = z := fun q => e1 q.symm
              simp [e1, e2, this]
      rw [this]
      by_cases e1 : y = x
      · subst e1; simp
      · by_cases e2 : x ∈ ys
        · simp [e1, e2]
        · have : ¬ x = y := fun q => e1 q.symm
          simp [e1, e2, this]
theorem te_globI {i : Int} (h : ∃ t, X.mg x = some (.int i t)) (hg : Gl X x := by rfl) (hd : (x == ("__debug__" : Str)) = false := by decide) : PE X (.Name x pos) (tE B Γ RInt (fun s K => K i s)) := by
  obtain ⟨t, h⟩ := h
  exact te_glob (v := V.int i) hg h ⟨t, rfl⟩ (fun _ => rfl) hd
theorem te_globS {i : Str} (h : ∃ t, X.mg x = some (.str i t)) (hg : Gl X x := by rfl) (hd : (x == ("__debug__" : Str)) = false := by decide) : PE X (.Name x pos) (tE B Γ RStr (fun s K => K i s)) := by
  obtain ⟨t, h⟩ := h
  exact te_glob (v := V.str i) hg h ⟨t, rfl⟩ (fun _ => rfl) hd
/-- behind the last statement -/
theorem ts_fall {Kf : Unit → Prop} (hP : P.nx = (xP B RNon Kf).nx := by rfl) : PSs X [] (tS B Γ P (fun _ => Kf ())) :=
  pss_imp pss_nil fun D σ H ⟨s, F, A, hm, L⟩ => L.nx σ F H (by rw [hP]; exact ⟨(), hm, rfl, A.fin⟩)
theorem ts_fallB {Kf : Unit → T → Prop} {j : Addr} (i : Nat) (get : S → T) (hG : ∀ s, (Γ s)[i]? = some (.bo j (O (get s))) := by intro _; rfl) (hP : P.nx = (xB B j O RNon Kf).nx := by rfl) : PSs X [] (tS B Γ P (fun s => Kf () (get s))) :=
  pss_imp pss_nil fun D σ H ⟨s, F, A, hm, L⟩ => L.nx σ F H (by
    obtain ⟨o, _, h2, h3, h4, _⟩ := A.bo (hG s)
    rw [hP]
    exact ⟨(), get s, o, hm, rfl, A.fin, h2, h3, h4⟩)
/-- a, b = x, y -/
theorem ts_par {i j : Nat} {mr : α → β → S → Prop} (h : PS X st (tPar i j (tCons (tE B Γ Ra ma) (tCons (tE B Γ Rb mb) tNil)))) (hr : ∀ x y, PSs X rest (tS B (fun s => ((Γ s).set i (.im (Ra x))).set j (.im (Rb y))) P (mr x y))) :
    PSs X (st :: rest) (tS B Γ P (fun s => ma s fun x s1 => mb s1 fun y s2 => mr x y s2)) :=
  pss_imp (pss_cons h (pss_ex fun z : α × β => hr z.1 z.2)) fun D σ H ⟨s, F, A, hm, L⟩ => ⟨s, F, _, A, hm, fun x s1 v F1 H1 h1 A1 e1 r1 => ⟨s1, F1, _, A1, h1, fun y s2 w F2 H2 h2 A2 e2 r2 => ⟨v, w, rfl, (x, y), s2, F2, (A2.setIm ((Ra x).mono _ _ _ e2 r1)).setIm r2, h2, L⟩⟩⟩
/-- .. the second a new list, owned; the first, the second -/
theorem ts_parO {i j : Nat} {Γ' : α → S' → List Sl} {mk : S → List β → S'} {mr : α → S' → Prop} {mb : S → (List β → S → Prop) → Prop} (h : PS X st (tPar i j (tCons (tE B Γ Ra ma) (tCons (tN B Γ Rb mb) tNil)))) (hG : ∀ x s y, Γ' x (mk s y) = ((Γ s).set i (.im (Ra x))).set j (.ow (OList Rb y))) (hij : i ≠ j) (hr : ∀ x, PSs X rest (tS B (Γ' x) P (mr x))) :
    PSs X (st :: rest) (tS B Γ P (fun s => ma s fun x s1 => mb s1 fun y s2 => mr x (mk s2 y))) :=
  pss_imp (pss_cons h (pss_ex hr)) fun D σ H ⟨s, F, A, hm, L⟩ => ⟨s, F, _, A, hm, fun x s1 v F1 H1 h1 A1 e1 r1 => ⟨s1, F1, _, A1, h1, fun y s2 q vs F2 H2 h2 A2 e2 hq fq bq nq av => ⟨v, .ref q, rfl, x, mk s2 y, F2, by
    rw [hG]
    have A3 := A2.setIm (i := i) (P := Ra x) ((Ra x).mono _ _ _ e2 r1)
    refine A3.setOw fq hq bq (fun z => ?_) ⟨vs, rfl, av⟩
    rcases mem_owA_set z with z | z
    · simp [ownS] at z
    · exact nq z, h2, L⟩⟩⟩

/-! ### the lent thing is the caller's own -/
theorem call_o {mf : ι → T → (α → T → Prop) → Prop} {i : Nat} {get : S → T} {put : S → T → S} (hG : ∀ s, (Γ s)[i]? = some (.ow (O (get s)))) (hP : ∀ s t, Γ (put s t) = (Γ s).set i (.ow (O t))) {σ : L2.St} {H : Hp} {Q : VK} {E : XK}
    (q : tE B Γ R (fun s K => mr s fun y s1 => mf y (get s1) fun r t => K r (put s1 t)) σ H Q) : tCall (spB O As R mf) [] E (tCons (tVar i) (tA B Γ As mr)) σ H Q := by
  obtain ⟨s, F, K', A, hm, k⟩ := q
  obtain ⟨j, ob, h1, h2, h3, h4, h5⟩ := A.ow (hG s)
  refine ⟨_, h1, s, F, _, A, hm, fun y s1 vs F1 H1 q1 A1 e1 r1 => ?_⟩
  show spB O As R mf (.ref j :: vs ++ []) H1 Q E
  rw [List.append_nil]
  obtain ⟨j', ob1, g1, g2, g3, g4, g5⟩ := A1.ow (hG s1)
  rw [h1] at g1
  cases g1
  refine ⟨y, get s1, F1, _, j, vs, ob1, rfl, r1, A1.sub, g2, g3, g4, q1, fun r t' v F' H' o' kr rv eF eH sb nw fj hj ho => ?_⟩
  refine k r (put s1 t') v F' H' kr ?_ (e1.trans eF) rv
  rw [hP]
  have A2 := A1.grow (H' := fun b => if b = j then some ob1 else H' b) eF (fun b u g => by
    by_cases hb : b = j
    · subst hb; rw [g3] at g; cases g; exact if_pos rfl
    · show (if b = j then _ else _) = _
      rw [if_neg hb]; exact eH b u hb g) (fun b u g => by
    by_cases hb : b = j
    · subst hb; rw [fj] at g; cases g
    · show (if b = j then _ else _) = _
      rw [if_neg hb]; exact sb b u g) nw
  have A3 := A2.write (O' := O t') (o := o') (hG s1) h1 ho
  have : upd (fun b => if b = j then some ob1 else H' b) j o' = H' := by
    funext b
    unfold upd
    by_cases hb : b = j
    · subst hb; rw [if_pos rfl, hj]
    · rw [if_neg hb]
      show (if b = j then _ else _) = _
      rw [if_neg hb]
  rw [this] at A3
  exact A3
theorem te_callO {mf : ι → T → (α → T → Prop) → Prop} {pn : Pos} (i : Nat) (get : S → T) (put : S → T → S) (F : FnOk X.prog X.w X.K X.mg X.base CX0 k f fd ps (spB O As R mf)) (hr : Room k X.A) (hm : X.mg x = some (.ref f)) (hk : PySem.W.keepIn X.K (.ref f) = true) (hb : Binds X.K fd ps []) (ha : PA X es (tA B Γ As mr))
    (hG : ∀ s, (Γ s)[i]? = some (.ow (O (get s))) := by intro _; rfl) (hP : ∀ s t, Γ (put s t) = (Γ s).set i (.ow (O t)) := by intro _ _; rfl) (hN : X.N[i]? = some xn := by rfl) (hv : Vis X.env.scope xn := by first | exact Or.inl rfl | exact Or.inr (Or.inl rfl) | exact Or.inr (Or.inr rfl)) (hd : (xn == ("__debug__" : Str)) = false := by decide) (hcd : (xn == ("__classdict__" : Str)) = false := by decide)
    (hg : Gl X x := by rfl) (hdb : (x == ("__debug__" : Str)) = false := by decide) (hs : starEach (.Name xn pn :: es) X.env = (false, eval (.Name xn pn) X.env) :: starEach es X.env := by rfl) (hpl : (backTo pos (starEach es X.env)).any (·.1) = false := by rfl) :
    PE X (.Call (.Name x p) (.Name xn pn :: es) [] pos) (tE B Γ R (fun s K => mr s fun y s1 => mf y (get s1) fun r t => K r (put s1 t))) :=
  pe_imp (pe_call F hr hg hm hk hb .nil (pass0 (X := X)) (pa_cons (pe_var hN hv hd hcd) ha hs) hdb hs hpl) fun _ _ _ q => call_o hG hP q
end
/-! ### a def that hands back a thing of its caller's -/
def spO {ι T : Type} (O : T → Od) (As : ι → List Pd) (m : ι → (T → Prop) → Prop) : Sp := fun vs H Q _ => ∃ y F K, AllP (As y) vs F ∧ Same F H ∧ m y K ∧
  ∀ t q F' H' o, K t → Same F F' → Same H H' → Same F' H' → Nw F H F' → H q = none → F' q = none → H' q = some o → (O t).p o F' → Q (.ref q) H'
section
variable {X : Cx} {S S' : Type} {B : Bs} {Γ : S → List Sl} {K : PySem.W.Frag} {ι T : Type} {e : Expr} {es : List Expr} {pos spos p p' : Pos} {x xn : Str} {P : Xt} {rest : List Stmt} {k : Nat} {f : Addr} {fd : FuncData} {ps : List Str} {O : T → Od} {As : ι → List Pd} {mr : S → (ι → S → Prop) → Prop}
theorem ts_setCallO {i : Nat} {Γ' : S' → List Sl} {mk : S → T → S'} {mr2 : S' → Prop} {mf : ι → (T → Prop) → Prop} (nd : X.N.Nodup) (F : FnOk X.prog X.w X.K X.mg X.base CX0 k f fd ps (spO O As mf)) (hr0 : Room k X.A) (hm : X.mg x = some (.ref f)) (hk : PySem.W.keepIn X.K (.ref f) = true) (hb : Binds X.K fd ps []) (ha : PA X (e :: es) (tA B Γ As mr))
    (hG : ∀ s t, Γ' (mk s t) = (Γ s).set i (.ow (O t))) (hr : PSs X rest (tS B Γ' P mr2)) (hi : X.N[i]? = some xn := by rfl) (hx : Loc X.env.scope xn := by first | exact Or.inl rfl | exact Or.inr rfl) (hg : Gl X x := by rfl) (hdb : (x == ("__debug__" : Str)) = false := by decide)
    (hs : starEach (e :: es) X.env = (false, eval e X.env) :: starEach es X.env := by rfl) (hpl : (backTo pos (starEach es X.env)).any (·.1) = false := by rfl) (hsw : swapsWith (.Call (.Name x p) (e :: es) [] pos) (some (.Name xn p')) spos.line X.env = pure false := by rfl) (hf : X.fn xn = true ∨ X.env.scope.names.lookup xn = some .local := by first | exact .inl rfl | exact .inr rfl) :
    PSs X (.Assign [.Name xn p'] (.Call (.Name x p) (e :: es) [] pos) spos :: rest) (tS B Γ P (fun s => mr s fun y s1 => mf y fun t => mr2 (mk s1 t))) :=
  pss_imp (pss_cons (ps_set nd hi hx (pe_call F hr0 hg hm hk hb .nil (pass0 (X := X)) ha hdb hs hpl) hsw hf) hr) fun D σ H ⟨s, F, A, hm, L⟩ => ⟨s, F, _, A, hm, fun y s1 vs F1 H1 h1 A1 e1 r1 => by
    show spO O As mf (vs ++ []) H1 _ _
    rw [List.append_nil]
    refine ⟨y, F1, _, r1, A1.sub, h1, fun t q F' H' o kt eF eH sb nw nq fq hq ho => ?_⟩
    have A2 := A1.grow eF eH sb nw
    refine ⟨mk s1 t, F', ?_, kt, L⟩
    rw [hG]
    exact A2.setOw fq hq (A1.fresh nq).2 (A1.notOwn nq) ho⟩
end
end TL
namespace TL
open PySem L2

/-! ### isinstance, the kind being known -/
def TyR {α : Type} (K : PySem.W.Frag) (R : α → Pd) (t : Value) : Prop := ∀ x v F H, (R x).p v F → Same F H → TyX K H v t
section
variable {K : PySem.W.Frag} {α β : Type} {R Ra : α → Pd} {Rb : β → Pd}
theorem ty_int : TyR K RInt (.type "int") := fun x v F H h _ => by
  rw [show v = V.int x from h]; exact .base (.int x)
theorem ty_bool : TyR K RBool (.type "bool") := fun x v F H h _ => by
  rw [show v = V.bl x from h]; exact .base (.bl x)
theorem ty_str : TyR K RStr (.type "str") := fun x v F H h _ => by
  rw [show v = V.str x from h]; exact .base (.str x)
theorem ty_non : TyR K RNon (.type "NoneType") := fun x v F H h _ => by
  rw [show v = V.non from h]; exact .base .non
theorem ty_lst : TyR K (RLst R) (.type "list") := fun x v F H ⟨a, vs, h, h1, _⟩ e => by
  subst h; exact .base (.lst (e _ _ h1))
theorem ty_rd_l {H : Hp} {a : Addr} {vs : List V} (h : SqL K H a vs) : TyX K H (.ref a) (.type "list") := by
  rcases h with z | ⟨o, its, n, h1, h2, _⟩
  · rcases z with z | ⟨o, z⟩
    · exact .base (.lst z)
    · exact .base (.frz z)
  · exact .kList h1 h2
theorem ty_rd_t {H : Hp} {a : Addr} {vs : List V} (h : SqT K H a vs) : TyX K H (.ref a) (.type "tuple") := by
  rcases h with z | ⟨o, its, n, h1, h2, _⟩
  · rcases z with z | ⟨o, z⟩
    · exact .base (.tup z)
    · exact .fTuple z
  · exact .kTuple h1 h2
theorem ty_list : TyR K (RList K R) (.type "list") := fun x v F H ⟨a, vs, h, h1, _⟩ e => by
  subst h; exact ty_rd_l (seqL_mono e h1)
theorem ty_tup : TyR K (RTup K R) (.type "tuple") := fun x v F H ⟨a, vs, h, h1, _⟩ e => by
  subst h; exact ty_rd_t (seqT_mono e h1)
theorem ty_pair : TyR K (RPair K Ra Rb) (.type "tuple") := fun x v F H ⟨a, v1, v2, h, h1, _⟩ e => by
  subst h; exact ty_rd_t (seqT_mono e h1)
theorem ty_ins {C : Addr} {fl : α → List (Str × Pd)} (c : C8.InsC K C) : TyR K (fun x => RIns C (fl x)) (.ref C) := fun x v F H ⟨a, dx, fs, h, h1, _⟩ e => by
  subst h; exact .base (.ins (e _ _ h1) c.cl c.ha c.hn c.htk c.hm)
variable {X : Cx} {S : Type} {B : Bs} {Γ : S → List Sl} {e c d : Expr} {p pos pc : Pos} {m : S → (α → S → Prop) → Prop} {t u u' : Value} {b : Bool} {v v' : V} {n : String} {x : Str}
/-- a class as an expression -/
def PCl (X : Cx) (c : Expr) (u : Value) : Prop := ∃ v, PE X c (tC v) ∧ ClsV v u
theorem pcl_ty (hg : Gl X x) (hm : X.mg x = none) (hv : bootBuiltins x = some (.type n)) (hn : x ≠ "__name__" := by decide) (hd : (x == ("__debug__" : Str)) = false := by decide) : PCl X (.Name x pc) (.type n) := ⟨.ty n, pe_bltn hg hm hv rfl hn hd, .ty n⟩
theorem pcl_own {C : Addr} (hm : X.mg x = some (.ref C)) (hg : Gl X x := by rfl) (hd : (x == ("__debug__" : Str)) = false := by decide) : PCl X (.Name x pc) (.ref C) := ⟨.ref C, pe_glob hg hm rfl hd, .own C⟩
theorem te_isi (P : BP X "isinstance" (.builtin "isinstance")) (ty : TyR X.K R t) (he : PE X e (tE B Γ R m)) (hc : PCl X c u) (hk : PySem.W.kitOne X.K t u = some b)
    (hs : starEach [e, c] X.env = (false, eval e X.env) :: starEach [c] X.env := by rfl) (hs2 : starEach [c] X.env = (false, eval c X.env) :: starEach [] X.env := by rfl) (hpl : (backTo pos (starEach [c] X.env)).any (·.1) = false := by rfl) :
    PE X (.Call (.Name "isinstance" p) [e, c] [] pos) (tE B Γ RBool (fun s K => m s fun _ s1 => K b s1)) := by
  obtain ⟨v, hc, hv⟩ := hc
  exact pe_imp (pe_callB call_isi P.g P.m P.v (pa_cons he (pa_cons hc pa_nil hs2) hs) P.n P.d hs hpl) fun σ H Q ⟨s, F, K', A, hm, k⟩ => ⟨s, F, _, A, hm, fun x s1 w F1 H1 h1 A1 e1 r1 => ⟨w, v, t, u, b, rfl, hv, ty x w F1 H1 r1 A1.sub, hk, k b s1 (.bl b) F1 H1 h1 A1 e1 rfl⟩⟩
/-- isinstance(e, (c, d)) -/
theorem te_isi2 {k : Nat} {pt : Pos} (P : BP X "isinstance" (.builtin "isinstance")) (ty : TyR X.K R t) (he : PE X e (tE B Γ R m)) (hc : PCl X c u) (hd : PCl X d u') (hk : PySem.W.kitAny X.K t [u, u'] = some b)
    (hs : starEach [e, .Tuple [c, d] k pt] X.env = (false, eval e X.env) :: starEach [.Tuple [c, d] k pt] X.env := by rfl) (hs2 : starEach [.Tuple [c, d] k pt] X.env = (false, eval (.Tuple [c, d] k pt) X.env) :: starEach [] X.env := by rfl) (hpl : (backTo pos (starEach [.Tuple [c, d] k pt] X.env)).any (·.1) = false := by rfl)
    (hs3 : starEach [c, d] X.env = (false, eval c X.env) :: starEach [d] X.env := by rfl) (hs4 : starEach [d] X.env = (false, eval d X.env) :: starEach [] X.env := by rfl) :
    PE X (.Call (.Name "isinstance" p) [e, .Tuple [c, d] k pt] [] pos) (tE B Γ RBool (fun s K => m s fun _ s1 => K b s1)) := by
  obtain ⟨v, hc, hv⟩ := hc
  obtain ⟨v', hd, hv'⟩ := hd
  exact pe_imp (pe_callB call_isiT P.g P.m P.v (pa_cons he (pa_cons (pe_tup (pa_cons hc (pa_cons hd pa_nil hs4) hs3)) pa_nil hs2) hs) P.n P.d hs hpl) fun σ H Q ⟨s, F, K', A, hm, k⟩ => ⟨s, F, _, A, hm, fun x s1 w F1 H1 h1 A1 e1 r1 => ⟨by show 2 ≤ sizeLine; decide, fun q nq =>
    ⟨w, q, [v, v'], t, [u, u'], b, rfl, upd_same, .cons hv (.cons hv' .nil), ty x w F1 _ r1 (A1.sub.trans (same_upd nq)), hk, k b s1 (.bl b) F1 _ h1 (A1.layH nq) e1 rfl⟩⟩⟩
theorem bg_int {X : Cx} (hm : X.mg "int" = none) (hg : Gl X "int" := by rfl) : PCl X (.Name "int" pc) (.type "int") := pcl_ty hg hm (by decide +kernel)
theorem bg_bool {X : Cx} (hm : X.mg "bool" = none) (hg : Gl X "bool" := by rfl) : PCl X (.Name "bool" pc) (.type "bool") := pcl_ty hg hm (by decide +kernel)
theorem bg_str {X : Cx} (hm : X.mg "str" = none) (hg : Gl X "str" := by rfl) : PCl X (.Name "str" pc) (.type "str") := pcl_ty hg hm (by decide +kernel)
theorem bg_list {X : Cx} (hm : X.mg "list" = none) (hg : Gl X "list" := by rfl) : PCl X (.Name "list" pc) (.type "list") := pcl_ty hg hm (by decide +kernel)
theorem bg_tuple {X : Cx} (hm : X.mg "tuple" = none) (hg : Gl X "tuple" := by rfl) : PCl X (.Name "tuple" pc) (.type "tuple") := pcl_ty hg hm (by decide +kernel)
end
theorem kit2 {K : PySem.W.Frag} {a b c : String} {r1 r2 : Bool} (h : kitB a b = some r1) (h2 : kitB a c = some r2) : PySem.W.kitAny K (.type a) [.type b, .type c] = some (r1 || r2) := by
  unfold PySem.W.kitAny
  rw [kit_ty h]
  cases r1 with
  | true => rfl
  | false =>
    show PySem.W.kitAny K (.type a) [.type c] = _
    unfold PySem.W.kitAny
    rw [kit_ty h2]
    cases r2 <;> rfl

/-! ### the law's jar: [cells, at, rest] -/
abbrev Jar := List Int × Int × Int
def OJar (j : Jar) : Od := ⟨fun o F => ∃ v, o = .lst [v, .int j.2.1, .int j.2.2] ∧ (RLst RInt j.1).p v F, fun _ _ _ e ⟨v, h1, h2⟩ => ⟨v, h1, (RLst RInt _).mono _ _ _ e h2⟩⟩
section
variable {X : Cx} {S S' : Type} {B : Bs} {Γ : S → List Sl} {K : PySem.W.Frag} {e : Expr} {pos pn pb p' : Pos} {xn : Str} {kk : Nat} {j : Addr} {P : Xt} {rest : List Stmt}
theorem te_jar0 (i : Nat) (get : S → Jar) (hG : ∀ s, (Γ s)[i]? = some (.bo j (OJar (get s))) := by intro _; rfl) (hN : X.N[i]? = some xn := by rfl) (hv : Vis X.env.scope xn := by first | exact Or.inl rfl | exact Or.inr (Or.inl rfl) | exact Or.inr (Or.inr rfl)) (hd : (xn == ("__debug__" : Str)) = false := by decide) (hcd : (xn == ("__classdict__" : Str)) = false := by decide)
    (hs : PlainIx (.Constant (.int 0) kk pb) := by exact fun _ _ => rfl) : PE X (.Subscript (.Name xn pn) (.Constant (.int 0) kk pb) pos) (tE B Γ (RLst RInt) (fun s K => K (get s).1 s)) :=
  pe_imp (pe_ix ix_list (pe_var hN hv hd hcd) pe_int hs) fun σ H Q ⟨s, F, K', A, hm, k⟩ => by
    obtain ⟨o, h1, h2, h3, ⟨v, h4, h5⟩, h6⟩ := A.bo (hG s)
    subst h4
    exact ⟨_, h1, j, _, 0, v, rfl, rfl, SqL.of h3, rfl, k _ s v F H hm A (Same.refl F) h5⟩
theorem te_jar1 (i : Nat) (get : S → Jar) (hG : ∀ s, (Γ s)[i]? = some (.bo j (OJar (get s))) := by intro _; rfl) (hN : X.N[i]? = some xn := by rfl) (hv : Vis X.env.scope xn := by first | exact Or.inl rfl | exact Or.inr (Or.inl rfl) | exact Or.inr (Or.inr rfl)) (hd : (xn == ("__debug__" : Str)) = false := by decide) (hcd : (xn == ("__classdict__" : Str)) = false := by decide)
    (hs : PlainIx (.Constant (.int 1) kk pb) := by exact fun _ _ => rfl) : PE X (.Subscript (.Name xn pn) (.Constant (.int 1) kk pb) pos) (tE B Γ RInt (fun s K => K (get s).2.1 s)) :=
  pe_imp (pe_ix ix_list (pe_var hN hv hd hcd) pe_int hs) fun σ H Q ⟨s, F, K', A, hm, k⟩ => by
    obtain ⟨o, h1, h2, h3, ⟨v, h4, h5⟩, h6⟩ := A.bo (hG s)
    subst h4
    exact ⟨_, h1, j, _, 1, _, rfl, rfl, SqL.of h3, rfl, k _ s (.int (get s).2.1) F H hm A (Same.refl F) rfl⟩
theorem te_jar2 (i : Nat) (get : S → Jar) (hG : ∀ s, (Γ s)[i]? = some (.bo j (OJar (get s))) := by intro _; rfl) (hN : X.N[i]? = some xn := by rfl) (hv : Vis X.env.scope xn := by first | exact Or.inl rfl | exact Or.inr (Or.inl rfl) | exact Or.inr (Or.inr rfl)) (hd : (xn == ("__debug__" : Str)) = false := by decide) (hcd : (xn == ("__classdict__" : Str)) = false := by decide)
    (hs : PlainIx (.Constant (.int 2) kk pb) := by exact fun _ _ => rfl) : PE X (.Subscript (.Name xn pn) (.Constant (.int 2) kk pb) pos) (tE B Γ RInt (fun s K => K (get s).2.2 s)) :=
  pe_imp (pe_ix ix_list (pe_var hN hv hd hcd) pe_int hs) fun σ H Q ⟨s, F, K', A, hm, k⟩ => by
    obtain ⟨o, h1, h2, h3, ⟨v, h4, h5⟩, h6⟩ := A.bo (hG s)
    subst h4
    exact ⟨_, h1, j, _, 2, _, rfl, rfl, SqL.of h3, rfl, k _ s (.int (get s).2.2) F H hm A (Same.refl F) rfl⟩
variable {m : S → (Int → S → Prop) → Prop} {mr : S → Prop}
theorem ts_jar1 (i : Nat) (get : S → Jar) (put : S → Jar → S) (he : PE X e (tE B Γ RInt m)) (hr : PSs X rest (tS B Γ P mr)) (hG : ∀ s, (Γ s)[i]? = some (.bo j (OJar (get s))) := by intro _; rfl) (hP : ∀ s t, Γ (put s t) = (Γ s).set i (.bo j (OJar t)) := by intro _ _; rfl) (hN : X.N[i]? = some xn := by rfl) (hv : Vis X.env.scope xn := by first | exact Or.inl rfl | exact Or.inr (Or.inl rfl) | exact Or.inr (Or.inr rfl)) (hd : (xn == ("__debug__" : Str)) = false := by decide) (hcd : (xn == ("__classdict__" : Str)) = false := by decide)
    (hs : swapsWithSole [.Subscript (.Name xn pn) (.Constant (.int 1) kk pb) p'] e pos.line X.env = pure false := by rfl) (hw : swappedStores [.Subscript (.Name xn pn) (.Constant (.int 1) kk pb) p'] e X.env = pure none := by rfl)
    (h1 : (assignEach [.Subscript (.Name xn pn) (.Constant (.int 1) kk pb) p'] X.env).map (·.2) = [assign (.Subscript (.Name xn pn) (.Constant (.int 1) kk pb) p') X.env] := by rfl) :
    PSs X (.Assign [.Subscript (.Name xn pn) (.Constant (.int 1) kk pb) p'] e pos :: rest) (tS B Γ P (fun s => m s fun x s1 => mr (put s1 ((get s1).1, x, (get s1).2.2)))) :=
  pss_imp (pss_cons (ps_asg he (pg_sub (pe_var hN hv hd hcd) pe_int set_list) hs hw h1) hr) fun D σ H ⟨s, F, A, hm, L⟩ => ⟨s, F, _, A, hm, fun x s1 w F1 H1 q1 A1 e1 r1 => by
    obtain ⟨o, h1, h2, h3, ⟨v, h4, h5⟩, h6⟩ := A1.bo (hG s1)
    subst h4
    rw [show w = V.int x from r1]
    exact ⟨_, h1, j, _, 1, 1, rfl, rfl, h3, rfl, _, F1, by rw [hP]; exact A1.writeB (O' := OJar ((get s1).1, x, (get s1).2.2)) (hG s1) ⟨v, rfl, h5⟩, q1, L⟩⟩
theorem ts_jar2 (i : Nat) (get : S → Jar) (put : S → Jar → S) (he : PE X e (tE B Γ RInt m)) (hr : PSs X rest (tS B Γ P mr)) (hG : ∀ s, (Γ s)[i]? = some (.bo j (OJar (get s))) := by intro _; rfl) (hP : ∀ s t, Γ (put s t) = (Γ s).set i (.bo j (OJar t)) := by intro _ _; rfl) (hN : X.N[i]? = some xn := by rfl) (hv : Vis X.env.scope xn := by first | exact Or.inl rfl | exact Or.inr (Or.inl rfl) | exact Or.inr (Or.inr rfl)) (hd : (xn == ("__debug__" : Str)) = false := by decide) (hcd : (xn == ("__classdict__" : Str)) = false := by decide)
    (hs : swapsWithSole [.Subscript (.Name xn pn) (.Constant (.int 2) kk pb) p'] e pos.line X.env = pure false := by rfl) (hw : swappedStores [.Subscript (.Name xn pn) (.Constant (.int 2) kk pb) p'] e X.env = pure none := by rfl)
    (h1 : (assignEach [.Subscript (.Name xn pn) (.Constant (.int 2) kk pb) p'] X.env).map (·.2) = [assign (.Subscript (.Name xn pn) (.Constant (.int 2) kk pb) p') X.env] := by rfl) :
    PSs X (.Assign [.Subscript (.Name xn pn) (.Constant (.int 2) kk pb) p'] e pos :: rest) (tS B Γ P (fun s => m s fun x s1 => mr (put s1 ((get s1).1, (get s1).2.1, x)))) :=
  pss_imp (pss_cons (ps_asg he (pg_sub (pe_var hN hv hd hcd) pe_int set_list) hs hw h1) hr) fun D σ H ⟨s, F, A, hm, L⟩ => ⟨s, F, _, A, hm, fun x s1 w F1 H1 q1 A1 e1 r1 => by
    obtain ⟨o, h1, h2, h3, ⟨v, h4, h5⟩, h6⟩ := A1.bo (hG s1)
    subst h4
    rw [show w = V.int x from r1]
    exact ⟨_, h1, j, _, 2, 2, rfl, rfl, h3, rfl, _, F1, by rw [hP]; exact A1.writeB (O' := OJar ((get s1).1, (get s1).2.1, x)) (hG s1) ⟨v, rfl, h5⟩, q1, L⟩⟩
/-- return [[..], 0, 0]: the jar is handed over -/
def xO {T : Type} (B : Bs) (O : T → Od) (Kf : T → Prop) : Xt := { nx := fun _ _ _ => False, rt := fun v F H => ∃ t q o, Kf t ∧ v = .ref q ∧ Fin B F H ∧ B.H q = none ∧ F q = none ∧ H q = some o ∧ (O t).p o F }
theorem ts_retJar {a b c : Expr} {pl : Pos} {ma : S → (List Int → S → Prop) → Prop} {mb mc : S → (Int → S → Prop) → Prop} {Kf : Jar → Prop} (ha : PE X a (tE B Γ (RLst RInt) ma)) (hb : PE X b (tE B Γ RInt mb)) (hc : PE X c (tE B Γ RInt mc)) (hP : P.rt = (xO B OJar Kf).rt := by rfl)
    (hs : starEach [a, b, c] X.env = (false, eval a X.env) :: starEach [b, c] X.env := by rfl) (hs2 : starEach [b, c] X.env = (false, eval b X.env) :: starEach [c] X.env := by rfl) (hs3 : starEach [c] X.env = (false, eval c X.env) :: starEach [] X.env := by rfl) :
    PSs X [.Return (some (.List [a, b, c] pl)) pos] (tS B Γ P (fun s => ma s fun x s1 => mb s1 fun y s2 => mc s2 fun z _ => Kf (x, y, z))) :=
  pss_imp (pss_one (ps_ret (pe_lst (ta_cons ha (ta_cons hb (ta_cons hc ta_nil hs3) hs2) hs)))) fun D σ H ⟨s, F, A, hm, L⟩ => ⟨s, F, fun x s' => Kf (x.1, x.2.1, x.2.2.1), A, hm, fun x s1 vs F1 H1 q1 A1 e1 r1 => by
    obtain ⟨x, y, z, u⟩ := x
    match vs, r1 with
    | [v1, v2, v3], ⟨r1, r2, r3, _⟩ =>
      refine ⟨by show 3 ≤ sizeLine; decide, fun p np => L.rt (.ref p) F1 _ ?_⟩
      rw [hP]
      have fr := A1.fresh np
      have A2 := A1.layH (o := .lst [v1, v2, v3]) np
      rw [show v2 = V.int y from r2, show v3 = V.int z from r3] at A2 ⊢
      exact ⟨(x, y, z), p, _, q1, rfl, A2.fin, fr.2, fr.1, upd_same, v1, rfl, r1⟩⟩
end
section
variable {P : Program} {w : World} {K : PySem.W.Frag} {mg : Str → Option Value} {base : Heap} {xq qual : Str} {st : Stmt} {f : Addr} {fd : FuncData} {N ps : List Str} {k : Nat} {ι T : Type} {As : ι → List Pd} {O : T → Od}
theorem fnO {mf : ι → (T → Prop) → Prop} (F : Fun K xq qual st f fd) (Sc : FnScope N ps (defScope st)) (hl : ∀ y, (As y).length = ps.length)
    (hb : ∀ (cdv : Value) (A : Around) (outer : List Env) (s : Shared) (H : Hp) (E : XK), Room k (A.deeper (PyProof.Rows.envOfC qual (defScope st) s.heap.objs.size f cdv)) → ∀ (y : ι) (Kf : T → Prop) (B : Bs),
      PSs (cxOf CX0 P w K mg base N qual (defScope st) f cdv A outer s H E).nox (defBody st) (tS B (fun _ : Unit => startG N (As y)) (xO B O Kf) (fun _ => mf y Kf))) : FnOk P w K mg base CX0 (k + 1) f fd ps (spO O As mf) := by
  refine F.ok Sc (fun vs H Q E h => ?_) (fun cdv A outer s H vs Q E hr h => ?_)
  · obtain ⟨y, F, K', h1, _⟩ := h
    rw [h1.len]; exact hl y
  · obtain ⟨y, F, K', h1, h2, h3, h4⟩ := h
    refine ⟨_, hb cdv A outer s H E hr y K' ⟨F, H, fun _ => False, []⟩, ?_⟩
    refine ⟨(), F, ?_, h3, ?_⟩
    · have hl' : N.length - (As y).length = N.length - ps.length := by rw [hl y]
      have hp : ps.length ≤ N.length := by
        have := congrArg List.length Sc.pre
        rw [List.length_take] at this
        omega
      have hv : vs.length = (As y).length := h1.len
      obtain ⟨r1, r2⟩ := fits_start (B := ⟨F, H, fun _ => False, []⟩) (H := H) (N.length - (As y).length) h1
      refine ⟨h2, Same.refl _, fun a o e _ => e, fun a o e => .inl e, ?_, ?_, fun a z => z.elim, fun _ z => nomatch z⟩
      · show Fits _ F H (startG N (As y)) (L2.start N vs)
        unfold startG L2.start
        rw [hv]
        exact r1
      · show (owA (startG N (As y)) (L2.start N vs)).Nodup
        unfold startG L2.start
        rw [hv, r2]
        exact List.Pairwise.nil
    · refine ⟨fun _ _ _ z => z.elim, fun v F' H' ⟨t, q, o, q1, q2, q3, q4, q5, q6, q7⟩ => ?_, fun _ _ _ z => z.elim, fun _ _ _ z => z.elim⟩
      subst q2
      exact h4 t q F' H' o q1 q3.1 (fun a o e => q3.2.2.1 a o e id) q3.2.1 q3.2.2.2 q4 q5 q6 q7
end
end TL
namespace TL
open PySem L2
section
variable {X : Cx} {S S' : Type} {B : Bs} {Γ : S → List Sl} {K : PySem.W.Frag} {α β γ ι : Type} {R Ra : α → Pd} {Rb : β → Pd} {Rc : γ → Pd} {e a b c tg it elt cond : Expr} {pos p spos py : Pos} {x y : Str} {scope : Scope} {own : List (Str × Nat)}
variable {m ma : S → (α → S → Prop) → Prop} {mb : S → (β → S → Prop) → Prop} {g : TG} {js : List Nat} {up : List Sl → α → List Sl}
theorem tn_e {m : S → (List α → S → Prop) → Prop} {σ : L2.St} {H : Hp} {Q : VK} (q : tE B Γ (RLst R) m σ H Q) : tN B Γ R m σ H Q := by
  obtain ⟨s, F, K', A, hm, k⟩ := q
  exact ⟨s, F, K', A, hm, fun xs s' p vs F' H' kx A' e' hp fp bp np av => by
    obtain ⟨A2, sF⟩ := A'.know fp hp bp np
    exact k xs s' (.ref p) (upd F' p (.lst vs)) H' kx A2 (e'.trans sF) ⟨p, vs, rfl, upd_same, av.mono sF⟩⟩
/-- y = [e for x in xs if c], y a plain local, on one row -/
theorem ps_compIf {i : Nat} {mi : S → (List α → S → Prop) → Prop} {mt : S → α → Unit → (Bool → Unit → Prop) → Prop} {me : S → α → Unit → (β → Unit → Prop) → Prop} (nd : X.N.Nodup) (hi : PI X tg it (tI B Γ R mi)) (ok : BlkOk X.N X.env.scope scope own)
    (hg : ∀ (s : Shared) (H : Hp) (C : Addr) (cl : List (Str × Addr)) (fp : List Addr), PG (X.blk s H scope (compEnvC scope cl C X.env) fp) tg g) (tgt : Tg g R js up)
    (ht : ∀ (s1 : S) (x : α) (B' : Bs) (s : Shared) (H : Hp) (C : Addr) (cl : List (Str × Addr)) (fp : List Addr), PT (X.blk s H scope (compEnvC scope cl C X.env) fp) cond (tT B' (fun _ : Unit => up (pureFrom (own.map (·.2)) 0 (Γ s1)) x) (mt s1 x)))
    (he : ∀ (s1 : S) (x : α) (B' : Bs) (s : Shared) (H : Hp) (C : Addr) (cl : List (Str × Addr)) (fp : List Addr), PE (X.blk s H scope (compEnvC scope cl C X.env) fp) elt (tE B' (fun _ : Unit => up (pureFrom (own.map (·.2)) 0 (Γ s1)) x) Rb (me s1 x)))
    (hsw : swapsWith (.ListComp elt [⟨tg, it, [cond], 0⟩] scope pos) (some (.Name y py)) spos.line X.env = pure true := by exact sw_true rfl rfl rfl (by decide +kernel)) (hy : X.N[i]? = some y := by rfl) (hyl : X.env.scope.names.lookup y = some .local := by rfl)
    (hj : ∀ j ∈ js, j ∈ own.map (·.2) := by decide) (hc : X.calm = true := by rfl) (hs : ∀ x, foldedSetIterable it X.env x = pure x := by intro _; rfl) :
    PS X (.Assign [.Name y py] (.ListComp elt [⟨tg, it, [cond], 0⟩] scope pos) spos) (tAsg (tE B Γ (RLst Rb) (fun s K => mi s fun xs s1 => xs.length ≤ 1000000 ∧ mMapIf xs (fun x K => mt s1 x () fun b _ => K b) (fun x K => me s1 x () fun y _ => K y) fun ys => K ys s1)) (gName i)) :=
  ps_imp (ps_setLc hc nd hy hyl hsw hi ok hg (fun s H C cl fp => pts_one (pt_imp (t := fun σ H Q => ∃ i : S × α × Bs, tT i.2.2 (fun _ : Unit => up (pureFrom (own.map (·.2)) 0 (Γ i.1)) i.2.1) (mt i.1 i.2.1) σ H Q)
      ⟨fun pins s' σ H' Q I ⟨i, q⟩ => (ht i.1 i.2.1 i.2.2 s H C cl fp).run pins s' σ H' Q I q⟩ fun _ _ _ q => q))
    (fun s H C cl fp => pe_ex fun i : S × α × Bs => he i.1 i.2.1 i.2.2 s H C cl fp) hs)
    fun D σ H q => lc_read (mt := fun s1 x K => mt s1 x () fun b _ => K b) (me := fun s1 x K => me s1 x () fun y _ => K y) tgt (fun s => pur_pure _ 0 _) hj (fun s i hi => pure_any _ 0 _ i (by simpa using hi)) (tn_e q)
theorem ps_map {i : Nat} {mi : S → (List α → S → Prop) → Prop} {me : S → α → Unit → (β → Unit → Prop) → Prop} (nd : X.N.Nodup) (hi : PI X tg it (tI B Γ R mi)) (ok : BlkOk X.N X.env.scope scope own)
    (hg : ∀ (s : Shared) (H : Hp) (C : Addr) (cl : List (Str × Addr)) (fp : List Addr), PG (X.blk s H scope (compEnvC scope cl C X.env) fp) tg g) (tgt : Tg g R js up)
    (he : ∀ (s1 : S) (x : α) (B' : Bs) (s : Shared) (H : Hp) (C : Addr) (cl : List (Str × Addr)) (fp : List Addr), PE (X.blk s H scope (compEnvC scope cl C X.env) fp) elt (tE B' (fun _ : Unit => up (pureFrom (own.map (·.2)) 0 (Γ s1)) x) Rb (me s1 x)))
    (hsw : swapsWith (.ListComp elt [⟨tg, it, [], 0⟩] scope pos) (some (.Name y py)) spos.line X.env = pure true := by exact sw_true rfl rfl rfl (by decide +kernel)) (hy : X.N[i]? = some y := by rfl) (hyl : X.env.scope.names.lookup y = some .local := by rfl)
    (hj : ∀ j ∈ js, j ∈ own.map (·.2) := by decide) (hc : X.calm = true := by rfl) (hs : ∀ x, foldedSetIterable it X.env x = pure x := by intro _; rfl) :
    PS X (.Assign [.Name y py] (.ListComp elt [⟨tg, it, [], 0⟩] scope pos) spos) (tAsg (tE B Γ (RLst Rb) (fun s K => mi s fun xs s1 => xs.length ≤ 1000000 ∧ mMap xs (fun x K => me s1 x () fun y _ => K y) fun ys => K ys s1)) (gName i)) :=
  ps_imp (ps_setLc hc nd hy hyl hsw hi ok hg (fun s H C cl fp => pts_ex fun i : S × α × Bs => pts_yes (B' := i.2.2) (Γ' := fun _ : Unit => up (pureFrom (own.map (·.2)) 0 (Γ i.1)) i.2.1))
    (fun s H C cl fp => pe_ex fun i : S × α × Bs => he i.1 i.2.1 i.2.2 s H C cl fp) hs)
    fun D σ H q => lc_read (mt := fun _ _ K => K true) (me := fun s1 x K => me s1 x () fun y _ => K y) tgt (fun s => pur_pure _ 0 _) hj (fun s i hi => pure_any _ 0 _ i (by simpa using hi)) (by
      obtain ⟨s, F, K', A, hm, k⟩ := tn_e q
      refine ⟨s, F, K', A, ?_, k⟩
      have : (fun (xs : List α) (s1 : S) => xs.length ≤ 1000000 ∧ mMapIf xs (fun _ K => K true) (fun x K => me s1 x () fun y _ => K y) fun ys => K' ys s1) = (fun xs s1 => xs.length ≤ 1000000 ∧ mMap xs (fun x K => me s1 x () fun y _ => K y) fun ys => K' ys s1) := by
        funext xs s1
        rw [← mMapIf_true]
      show mi s (fun (xs : List α) (s1 : S) => xs.length ≤ 1000000 ∧ mMapIf xs (fun _ K => K true) (fun x K => me s1 x () fun y _ => K y) fun ys => K' ys s1)
      rw [this]
      exact hm)
end
end TL
namespace TL
open PySem L2
section
variable {X : Cx} {S : Type} {B : Bs} {Γ : S → List Sl} {K : PySem.W.Frag} {α β : Type} {R : α → Pd} {a b e : Expr} {pos : Pos}
theorem te_never : PE X e (tE B Γ R (fun _ _ => False)) := ⟨fun _ _ _ _ _ _ ⟨_, _, _, _, h, _⟩ => h.elim⟩
theorem tt_never : PT X e (tT B Γ (fun _ _ => False)) := ⟨fun _ _ _ _ _ _ ⟨_, _, _, _, h, _⟩ => h.elim⟩
def Nn (R : α → Pd) : Prop := ∀ x v F, (R x).p v F → v ≠ .non
theorem nn_int : Nn RInt := fun x v F h z => by rw [z] at h; exact nomatch h
theorem nn_bool : Nn RBool := fun x v F h z => by rw [z] at h; exact nomatch h
theorem nn_str : Nn RStr := fun x v F h z => by rw [z] at h; exact nomatch h
theorem nn_lst : Nn (RLst R) := fun x v F ⟨_, _, h, _⟩ z => by rw [z] at h; exact nomatch h
theorem nn_list : Nn (RList K R) := fun x v F ⟨_, _, h, _⟩ z => by rw [z] at h; exact nomatch h
theorem nn_tup : Nn (RTup K R) := fun x v F ⟨_, _, h, _⟩ z => by rw [z] at h; exact nomatch h
theorem nn_pair {Ra : α → Pd} {Rb : β → Pd} : Nn (RPair K Ra Rb) := fun x v F ⟨_, _, _, h, _⟩ z => by rw [z] at h; exact nomatch h
theorem nn_ins {C : Addr} {fl : α → List (Str × Pd)} : Nn (fun x => RIns C (fl x)) := fun x v F ⟨_, _, _, h, _⟩ z => by rw [z] at h; exact nomatch h
theorem cr_isNo (n : Nn R) : CR X .Is R RNon (fun _ _ => false) := ⟨_, op_isN, OpU.g fun x y v w F H Q hx hy _ q => ⟨hy, q _ (by
  show V.bl _ = V.bl _
  rw [decide_eq_false (n x v F hx)])⟩⟩
theorem cr_notNo (n : Nn R) : CR X .IsNot R RNon (fun _ _ => true) := ⟨_, op_notN, OpU.g fun x y v w F H Q hx hy _ q => ⟨hy, q _ (by
  show V.bl _ = V.bl _
  rw [decide_eq_false (n x v F hx)]; rfl)⟩⟩
theorem cr_isNN : CR X .Is RNon RNon (fun _ _ => true) := ⟨_, op_isN, OpU.g fun x y v w F H Q hx hy _ q => ⟨hy, q _ (by
  have : v = V.non := hx
  subst this; rfl)⟩⟩
theorem cr_notNN : CR X .IsNot RNon RNon (fun _ _ => false) := ⟨_, op_notN, OpU.g fun x y v w F H Q hx hy _ q => ⟨hy, q _ (by
  have : v = V.non := hx
  subst this; rfl)⟩⟩
end
section
open PySem.Spec PyProof.Rows
/-- t * 1, () * n: the tuple itself -/
theorem tuple_mulS (l : Addr) (items : Array Value) (n : Nat) (dd : Option Addr) (sl : Array (Option Value)) (x : Int) (u : Tok) (c0 : (decide (x < -(2 ^ 63)) || decide (x ≥ 2 ^ 63)) = false) (c1 : (items.isEmpty || x == 1) = true) :
    Meets (Builtin.«tuple.__mul__» ⟨[.ref l, .int x u], []⟩) (fun _ R s => s.heap.get? l = some { cls := .type "tuple", dict := dd, data := .seq items n, slots := sl } ∧ R (.ok (.ret (Value.ref l))) s) :=
  .of_wp fun prog w A R s h => by
    obtain ⟨hp, g, d, tk, os⟩ := s
    obtain ⟨hl, h⟩ := h
    have f1 := AutoSeq1.idx_int
    wp_walk using wpAny_loadPart' hl
    repeat (first
      | (refine wpAny_ite_false (decide_eq_false (by rw [c0]; exact Bool.false_ne_true)) ?_; wp_walk using wpAny_loadPart' hl)
      | (refine wpAny_ite_true (decide_eq_true c1) ?_; wp_walk using wpAny_loadPart' hl))
    exact ⟨_, rfl, h⟩
/-- t * 0 -/
theorem tuple_mulZ (l : Addr) (items : Array Value) (n : Nat) (dd : Option Addr) (sl : Array (Option Value)) (x : Int) (u : Tok) (c0 : (decide (x < -(2 ^ 63)) || decide (x ≥ 2 ^ 63)) = false) (c1 : (items.isEmpty || x == 1) = false) (c2 : (decide (x ≤ 0) || items.isEmpty) = true) :
    Meets (Builtin.«tuple.__mul__» ⟨[.ref l, .int x u], []⟩) (fun _ R s => s.heap.get? l = some { cls := .type "tuple", dict := dd, data := .seq items n, slots := sl } ∧
      R (.ok (.ret (Value.ref s.heap.objs.size))) { s with heap := s.heap.push { cls := Value.type "tuple", data := Data.seq #[] }, toks := s.toks }) :=
  .of_wp fun prog w A R s h => by
    obtain ⟨hp, g, d, tk, os⟩ := s
    obtain ⟨hl, h⟩ := h
    have f1 := AutoSeq1.idx_int
    wp_walk using wpAny_loadPart' hl
    repeat (first
      | (refine wpAny_ite_false (decide_eq_false (by rw [c0]; exact Bool.false_ne_true)) ?_; wp_walk using wpAny_loadPart' hl)
      | (refine wpAny_ite_false (decide_eq_false (by rw [c1]; exact Bool.false_ne_true)) ?_; wp_walk using wpAny_loadPart' hl)
      | (refine wpAny_ite_true (decide_eq_true c2) ?_; wp_walk using wpAny_loadPart' hl))
    exact ⟨_, rfl, h⟩
def rRepA (K : PySem.W.Frag) : R2 := fun x y H Q => ∃ l k xs, x = .ref l ∧ y = .int k ∧ SqT K H l xs ∧ -(2 ^ 63) ≤ k ∧ k < 2 ^ 63 ∧ xs.length * k.toNat ≤ 1000000 ∧
  (xs = [] ∨ k = 1 → Q (.ref l) H) ∧ (¬ (xs = [] ∨ k = 1) → ∀ p, H p = none → Q (.ref p) (upd H p (.tup (List.replicate k.toNat xs).flatten)))
theorem op_repA {X : Cx} : OpR X (binaryOp .Mult) (rRepA X.K) := by
  intro pins s σ H x y v u Q I rx ry h
  obtain ⟨l, k, xs, rfl, rfl, hT, h1, h2, hz, q1, q2⟩ := h
  cases rx
  obtain ⟨t, rfl⟩ := ry
  obtain ⟨its, r, ⟨⟨cls, dd, data, sl⟩, ho, hc, n, hd⟩, hs⟩ := I.tuple hT
  simp only at hc hd
  subst hc hd
  have hle : its.length = xs.length := r.length.symm
  have hi : its.toArray.isEmpty = decide (xs = []) := by
    cases its with
    | nil =>
      have : xs = [] := List.eq_nil_of_length_eq_zero hle.symm
      subst this; rfl
    | cons a b =>
      cases xs with
      | nil => cases hle
      | cons c d => rfl
  have c0 : (decide (k < -(2 ^ 63)) || decide (k ≥ 2 ^ 63)) = false := by
    rw [decide_eq_false (by omega), decide_eq_false (by omega)] <;> rfl
  have hsz0 : its.toArray.size = xs.length := by rw [List.size_toArray, hle]
  by_cases hw : xs = [] ∨ k = 1
  · have c1 : (its.toArray.isEmpty || k == 1) = true := by
      rw [hi, Bool.or_eq_true, decide_eq_true_eq, beq_iff_eq]
      exact hw
    refine wpAny_binaryOp_repeat_ref (T := "tuple") (U := "int") (by decide) ⟨_, ho, rfl⟩ (fun s' => typeIs_int s' k t) noFill_tuple_mul F.fills_int_mul F.slot_int_rmul repeat_tuple F.slot_int_index.lookup
      (call_meets F.slot_int_rmul (typeIs_int s k t) F.entry_int_rmul (F.args_int_rmul_2 _ _) (int_rmul_tuple k t l its.toArray n dd sl)
        ⟨ho, rfl, ⟨_, ho, rfl⟩, call_meets F.slot_tuple_mul ⟨_, ho, rfl⟩ F.entry_tuple_mul (F.args_tuple_mul_2 _ _) (tuple_mulS l its.toArray n dd sl k t c0 c1) ⟨ho, ?_⟩⟩)
    exact ⟨.ref l, H, I, rfl, q1 hw⟩
  · have hne : xs ≠ [] := fun e => hw (.inl e)
    have hk1 : k ≠ 1 := fun e => hw (.inr e)
    have c1 : (its.toArray.isEmpty || k == 1) = false := by
      rw [hi, decide_eq_false hne, Bool.false_or]
      exact beq_eq_false_iff_ne.mpr hk1
    have flen : (List.replicate k.toNat its).flatten.length ≤ sizeLine := by
      rw [PyProof.Rows.lm_len_rep_flat, hle, Nat.mul_comm]
      exact Nat.le_trans hz (by decide)
    by_cases hk : k ≤ 0
    · have c2 : (decide (k ≤ 0) || its.toArray.isEmpty) = true := by
        rw [decide_eq_true hk]; rfl
      refine wpAny_binaryOp_repeat_ref (T := "tuple") (U := "int") (by decide) ⟨_, ho, rfl⟩ (fun s' => typeIs_int s' k t) noFill_tuple_mul F.fills_int_mul F.slot_int_rmul repeat_tuple F.slot_int_index.lookup
        (call_meets F.slot_int_rmul (typeIs_int s k t) F.entry_int_rmul (F.args_int_rmul_2 _ _) (int_rmul_tuple k t l its.toArray n dd sl)
          ⟨ho, rfl, ⟨_, ho, rfl⟩, call_meets F.slot_tuple_mul ⟨_, ho, rfl⟩ F.entry_tuple_mul (F.args_tuple_mul_2 _ _) (tuple_mulZ l its.toArray n dd sl k t c0 c1 c2) ⟨ho, ?_⟩⟩)
      have e0 : k.toNat = 0 := Int.toNat_eq_zero.mpr hk
      refine ⟨.ref s.heap.objs.size, _, I.laid (t' := s.toks) (o := .tup (List.replicate k.toNat xs).flatten) (fun b ob q => Heap.get?_push_of_some _ q) (Nat.le_refl _) ?_, rfl, q2 hw _ (I.hok.fresh (Nat.le_refl _))⟩
      rw [e0]
      exact ⟨Nat.zero_le _, _, .nil, IsTup.new _ _⟩
    · have c2 : (decide (k ≤ 0) || its.toArray.isEmpty) = false := by
        rw [hi, decide_eq_false hk, decide_eq_false hne]; rfl
      have hm : ((its.toArray.size : Nat) : Int) * k ≤ 1000000 := by
        rw [hsz0]
        have : ((xs.length * k.toNat : Nat) : Int) = (xs.length : Int) * k := by
          rw [Int.natCast_mul, Int.toNat_of_nonneg (by omega)]
        omega
      have c4 : Builtin.Tuple.tupleTooMany (((its.toArray.size : Nat) : Int) * k) = false := by
        unfold Builtin.Tuple.tupleTooMany
        rw [sizeLine_eq]
        exact decide_eq_false (by omega)
      refine wpAny_binaryOp_repeat_ref (T := "tuple") (U := "int") (by decide) ⟨_, ho, rfl⟩ (fun s' => typeIs_int s' k t) noFill_tuple_mul F.fills_int_mul F.slot_int_rmul repeat_tuple F.slot_int_index.lookup
        (call_meets F.slot_int_rmul (typeIs_int s k t) F.entry_int_rmul (F.args_int_rmul_2 _ _) (int_rmul_tuple k t l its.toArray n dd sl)
          ⟨ho, rfl, ⟨_, ho, rfl⟩, call_meets F.slot_tuple_mul ⟨_, ho, rfl⟩ F.entry_tuple_mul (F.args_tuple_mul_2 _ _) (tuple_mulW l its.toArray n dd sl k t c0 c1 c2 (by omega) c4 (by rw [size_rep, List.size_toArray]; exact flen)) ⟨ho, ?_⟩⟩)
      rw [size_rep]
      refine ⟨.ref s.heap.objs.size, _, I.laid (t' := s.toks) (o := .tup (List.replicate k.toNat xs).flatten) (fun b ob q => Heap.get?_push_of_some _ q) (Nat.le_refl _) ?_, rfl, q2 hw _ (I.hok.fresh (Nat.le_refl _))⟩
      exact ⟨by rw [PyProof.Rows.lm_len_rep_flat, Nat.mul_comm]; exact Nat.le_trans hz (by decide), _, r.rep k.toNat, IsTup.new _ _⟩
end
section
variable {X : Cx} {S : Type} {B : Bs} {Γ : S → List Sl} {K : PySem.W.Frag} {α β : Type} {R : α → Pd} {a b e : Expr} {pos : Pos}
theorem te_repT {ma : S → (List α → S → Prop) → Prop} {mb : S → (Int → S → Prop) → Prop} (ha : PE X a (tE B Γ (RTup K R) ma)) (hb : PE X b (tE B Γ RInt mb)) (hK : X.K = K := by rfl) :
    PE X (.BinOp a .Mult b pos) (tE B Γ (RTup K R) (fun s K => ma s fun x s1 => mb s1 fun y s2 => (-(2 ^ 63) ≤ y ∧ y < 2 ^ 63 ∧ x.length * y.toNat ≤ 1000000) ∧ K (pyRep x y) s2)) := by
  subst hK
  refine pe_imp (pe_op op_repA ha hb) fun σ H Q ⟨s, F, K', A, hm, k⟩ => ⟨s, F, _, A, hm, fun xs s1 v F1 H1 h1 A1 e1 r1 => ⟨s1, F1, _, A1, h1, fun y s2 w F2 H2 ⟨hc, h2⟩ A2 e2 r2 => ?_⟩⟩
  obtain ⟨q1, vs, rfl, hq, av⟩ := r1
  have hq := seqT_mono e2 hq
  have av := av.mono e2
  rw [show w = V.int y from r2]
  refine ⟨q1, y, vs, rfl, rfl, seqT_mono A2.sub hq, hc.1, hc.2.1, by rw [av.len]; exact hc.2.2, fun z => ?_, fun _ p np => ?_⟩
  · have ep : pyRep xs y = xs := by
      rcases z with z | z
      · have : xs = [] := List.eq_nil_of_length_eq_zero (by rw [← av.len, z]; rfl)
        subst this
        unfold pyRep
        exact List.flatten_eq_nil_iff.mpr fun l hl => (List.mem_replicate.mp hl).2
      · subst z
        unfold pyRep
        show (List.replicate 1 xs).flatten = xs
        simp
    refine k _ s2 (.ref q1) F2 H2 h2 A2 (e1.trans e2) ?_
    rw [ep]
    exact ⟨q1, vs, rfl, hq, av⟩
  · obtain ⟨A3, e3⟩ := A2.lay (o := .tup (List.replicate y.toNat vs).flatten) np
    exact k _ s2 _ _ _ h2 A3 ((e1.trans e2).trans e3) ⟨p, _, rfl, SqT.of upd_same, (av.rep _).mono e3⟩
end
theorem units65 {k : Nat} {A : Around} (r : Room k A) : A.units + 65 < cLine := by have := r.un; omega
/-- what is gone on with -/
def mB {α S : Type} (f : (α → S → Prop) → Prop) (k : α → S → Prop) : Prop := f k
theorem mB_of {α S : Type} {f : (α → S → Prop) → Prop} {k : α → S → Prop} (P : α → S → Prop) (h : ∀ K : α → S → Prop, (∀ v s, P v s → K v s) → f K) (hk : ∀ v s, P v s → k v s) : mB f k := h k hk
theorem memB_true {α : Type} [DecidableEq α] {x : α} {xs : List α} (h : x ∈ xs) : memB x xs = true := decide_eq_true h
theorem memB_iff {α : Type} [DecidableEq α] {x : α} {xs : List α} : memB x xs = true ↔ x ∈ xs := decide_eq_true_iff
theorem kit_self {K : PySem.W.Frag} {C : Addr} : PySem.W.kitOne K (.ref C) (.ref C) = some true := by
  unfold PySem.W.kitOne
  rw [if_pos]
  show (Value.ref C == Value.ref C) = true
  exact beq_self_eq_true (α := Value) _
end TL
namespace TL
open PySem L2
section
variable {X : Cx} {S : Type} {B : Bs} {Γ : S → List Sl} {K : PySem.W.Frag} {α β γ δ ι ι' κ : Type} {R Ra : α → Pd} {Rb : β → Pd} {Rc : γ → Pd} {Rd' : δ → Pd} {As : ι → List Pd} {a b e c : Expr} {es : List Expr} {pos p cpos apos pn pc : Pos} {x xn : Str} {mr : S → (ι → S → Prop) → Prop}
variable {m : S → (Option α → S → Prop) → Prop}
/-! ### what may be None -/
theorem flat_optI : Flat (ROpt RInt) (fun o : Option Int => match o with | none => V.non | some i => V.int i) where
  rep := fun x v F h => by
    cases x with
    | none => exact h
    | some i => exact h.2
  inj := fun x y h => by
    cases x <;> cases y
    · rfl
    · cases h
    · cases h
    · cases h; rfl
  sc := fun x y => by cases x <;> cases y <;> rfl
/-- it is there -/
theorem te_unopt (h : PE X e (tE B Γ (ROpt R) m)) : PE X e (tE B Γ R (fun s K => m s fun x s1 => ∃ y, x = some y ∧ K y s1)) :=
  pe_imp h fun σ H Q ⟨s, F, K', A, hm, k⟩ => ⟨s, F, _, A, hm, fun x s1 v F1 H1 ⟨y, hy, q⟩ A1 e1 r1 => by
    subst hy
    exact k y s1 v F1 H1 q A1 e1 r1.2⟩
/-- isinstance, the kind one of some with the same answer -/
def TyB {α : Type} (K : PySem.W.Frag) (R : α → Pd) (u : Value) (b : Bool) : Prop := ∀ x v F H, (R x).p v F → Same F H → ∃ t, TyX K H v t ∧ PySem.W.kitOne K t u = some b
theorem tyb_opt {u t : Value} {b : Bool} (h : TyR K R t) (h1 : PySem.W.kitOne K t u = some b) (h2 : PySem.W.kitOne K (.type "NoneType") u = some b) : TyB K (ROpt R) u b := fun x v F H hx e => by
  cases x with
  | none => exact ⟨_, ty_non () v F H hx e, h2⟩
  | some y => exact ⟨t, h y v F H hx.2 e, h1⟩
theorem te_isiB {m : S → (α → S → Prop) → Prop} {u : Value} {b : Bool} (P : BP X "isinstance" (.builtin "isinstance")) (ty : TyB X.K R u b) (he : PE X e (tE B Γ R m)) (hc : PCl X c u)
    (hs : starEach [e, c] X.env = (false, eval e X.env) :: starEach [c] X.env := by rfl) (hs2 : starEach [c] X.env = (false, eval c X.env) :: starEach [] X.env := by rfl) (hpl : (backTo pos (starEach [c] X.env)).any (·.1) = false := by rfl) :
    PE X (.Call (.Name "isinstance" p) [e, c] [] pos) (tE B Γ RBool (fun s K => m s fun _ s1 => K b s1)) := by
  obtain ⟨v, hc, hv⟩ := hc
  exact pe_imp (pe_callB call_isi P.g P.m P.v (pa_cons he (pa_cons hc pa_nil hs2) hs) P.n P.d hs hpl) fun σ H Q ⟨s, F, K', A, hm, k⟩ => ⟨s, F, _, A, hm, fun x s1 w F1 H1 h1 A1 e1 r1 => by
    obtain ⟨t, ht, hk⟩ := ty x w F1 H1 r1 A1.sub
    exact ⟨w, v, t, u, b, rfl, hv, ht, hk, k b s1 (.bl b) F1 H1 h1 A1 e1 rfl⟩⟩
/-! ### tuples of unlike items -/
def RTn (K : PySem.W.Frag) (As : ι → List Pd) (y : ι) : Pd := ⟨fun v F => ∃ a vs, v = .ref a ∧ SqT K F a vs ∧ AllP (As y) vs F, fun _ _ _ e ⟨a, vs, h1, h2, h3⟩ => ⟨a, vs, h1, seqT_mono e h2, h3.mono e⟩⟩
theorem te_tupN {x1} (h : PA X es (tA B Γ As mr)) (hn : ∀ y, (As y).length ≤ 1000 := by intro _; show _ ≤ 1000; decide) : PE X (.Tuple es x1 pos) (tE B Γ (RTn K As) mr) :=
  pe_imp (pe_tup h) fun σ H Q ⟨s, F, K', A, hm, k⟩ => ⟨s, F, _, A, hm, fun y s1 vs F1 H1 q1 A1 e1 r1 => ⟨by rw [r1.len]; exact smallLen (Nat.le_trans (hn y) (by decide)), fun p np => by
    obtain ⟨A2, e2⟩ := A1.lay (o := .tup vs) np
    exact k y s1 (.ref p) _ _ q1 A2 (e1.trans e2) ⟨p, vs, rfl, SqT.of upd_same, r1.mono e2⟩⟩⟩
theorem tg_tup3 (i j l : Nat) : Tg (gTup K 3 (gCons (gName i) (gCons (gName j) (gCons (gName l) gNil)))) (RTn K (acons Ra (acons Rb (acons Rc anil)))) [i, j, l] (fun Γ x => ((Γ.set i (.im (Ra x.1))).set j (.im (Rb x.2.1))).set l (.im (Rc x.2.2.1))) := ⟨fun {B Γ σ F H x v Q} A hr k => by
  obtain ⟨q, vs, rfl, h2, h3⟩ := hr
  match vs, h3 with
  | [v1, v2, v3], ⟨r1, r2, r3, _⟩ =>
    refine ⟨q, _, rfl, seqT_mono A.sub h2, rfl, v1, [v2, v3], rfl, v2, [v3], rfl, v3, [], rfl, rfl, ?_⟩
    exact k _ (((A.setIm r1).setIm r2).setIm r3) fun vs hv => by rw [wipe_set (hv l (by simp)), wipe_set (hv j (by simp)), wipe_set (hv i (by simp))]⟩
theorem tg_tup4 (i j l o : Nat) : Tg (gTup K 4 (gCons (gName i) (gCons (gName j) (gCons (gName l) (gCons (gName o) gNil))))) (RTn K (acons Ra (acons Rb (acons Rc (acons Rd' anil))))) [i, j, l, o] (fun Γ x => (((Γ.set i (.im (Ra x.1))).set j (.im (Rb x.2.1))).set l (.im (Rc x.2.2.1))).set o (.im (Rd' x.2.2.2.1))) := ⟨fun {B Γ σ F H x v Q} A hr k => by
  obtain ⟨q, vs, rfl, h2, h3⟩ := hr
  match vs, h3 with
  | [v1, v2, v3, v4], ⟨r1, r2, r3, r4, _⟩ =>
    refine ⟨q, _, rfl, seqT_mono A.sub h2, rfl, v1, [v2, v3, v4], rfl, v2, [v3, v4], rfl, v3, [v4], rfl, v4, [], rfl, rfl, ?_⟩
    exact k _ ((((A.setIm r1).setIm r2).setIm r3).setIm r4) fun vs hv => by rw [wipe_set (hv o (by simp)), wipe_set (hv l (by simp)), wipe_set (hv j (by simp)), wipe_set (hv i (by simp))]⟩
/-! ### max(a, b), min(a, b) -/
theorem te_max2 {ma mb : S → (Int → S → Prop) → Prop} (P : BP X "max" (.builtin "max")) (ha : PE X a (tE B Γ RInt ma)) (hb : PE X b (tE B Γ RInt mb)) (hc : X.calm = true := by rfl) (hs : starEach [a, b] X.env = (false, eval a X.env) :: starEach [b] X.env := by rfl) (hs2 : starEach [b] X.env = (false, eval b X.env) :: starEach [] X.env := by rfl) (hpl : (backTo pos (starEach [b] X.env)).any (·.1) = false := by rfl) :
    PE X (.Call (.Name "max" p) [a, b] [] pos) (tE B Γ RInt (fun s K => ma s fun x s1 => mb s1 fun y s2 => K (max x y) s2)) :=
  pe_imp (pe_callB (call_max2 hc) P.g P.m P.v (pa_cons ha (pa_cons hb pa_nil hs2) hs) P.n P.d hs hpl) fun σ H Q ⟨s, F, K', A, hm, k⟩ => ⟨s, F, _, A, hm, fun x s1 v F1 H1 h1 A1 e1 r1 => ⟨s1, F1, _, A1, h1, fun y s2 w F2 H2 h2 A2 e2 r2 => ⟨x, y, by rw [show v = V.int x from r1, show w = V.int y from r2], k (max x y) s2 _ F2 H2 h2 A2 (e1.trans e2) (by
    show V.int _ = V.int _
    congr 1
    split <;> omega)⟩⟩⟩
theorem te_min2 {ma mb : S → (Int → S → Prop) → Prop} (P : BP X "min" (.builtin "min")) (ha : PE X a (tE B Γ RInt ma)) (hb : PE X b (tE B Γ RInt mb)) (hc : X.calm = true := by rfl) (hs : starEach [a, b] X.env = (false, eval a X.env) :: starEach [b] X.env := by rfl) (hs2 : starEach [b] X.env = (false, eval b X.env) :: starEach [] X.env := by rfl) (hpl : (backTo pos (starEach [b] X.env)).any (·.1) = false := by rfl) :
    PE X (.Call (.Name "min" p) [a, b] [] pos) (tE B Γ RInt (fun s K => ma s fun x s1 => mb s1 fun y s2 => K (min x y) s2)) :=
  pe_imp (pe_callB (call_min2 hc) P.g P.m P.v (pa_cons ha (pa_cons hb pa_nil hs2) hs) P.n P.d hs hpl) fun σ H Q ⟨s, F, K', A, hm, k⟩ => ⟨s, F, _, A, hm, fun x s1 v F1 H1 h1 A1 e1 r1 => ⟨s1, F1, _, A1, h1, fun y s2 w F2 H2 h2 A2 e2 r2 => ⟨x, y, by rw [show v = V.int x from r1, show w = V.int y from r2], k (min x y) s2 _ F2 H2 h2 A2 (e1.trans e2) (by
    show V.int _ = V.int _
    congr 1
    split <;> omega)⟩⟩⟩
/-! ### min of a list of data -/
def leastD (d : α → PyData) : List α → Option α
  | [] => none
  | x :: xs => some (xs.foldl (fun a y => if PySem.W.dataLt (d y) (d a) then y else a) x)
theorem leastD_mem {d : α → PyData} : ∀ {xs : List α} {y : α}, leastD d xs = some y → y ∈ xs
  | x :: xs, y, h => by
    have go : ∀ (l : List α) (a : α), (∀ z ∈ l, z ∈ x :: xs) → a ∈ x :: xs → l.foldl (fun a y => if PySem.W.dataLt (d y) (d a) then y else a) a ∈ x :: xs := by
      intro l
      induction l with
      | nil => intro a _ h; exact h
      | cons z l ih =>
        intro a hl ha
        rw [List.foldl_cons]
        refine ih _ (fun q hq => hl q (List.mem_cons_of_mem _ hq)) ?_
        split
        · exact hl z List.mem_cons_self
        · exact ha
    cases h
    exact go xs x (fun z hz => List.mem_cons_of_mem _ hz) List.mem_cons_self
theorem leastD_minD {d : α → PyData} (x : α) (xs : List α) : d (xs.foldl (fun a y => if PySem.W.dataLt (d y) (d a) then y else a) x) = PySem.W.minD (d x) (xs.map d) := by
  unfold PySem.W.minD
  induction xs generalizing x with
  | nil => rfl
  | cons y xs ih =>
    rw [List.map_cons, List.foldl_cons, List.foldl_cons, ih]
    congr 1
    split <;> rfl
theorem vals_at : ∀ {ws : List V} {its : List Value} {i : Nat} {v : Value}, Vals ws its → its[i]? = some v → ∃ w, ws[i]? = some w ∧ RelV w v
  | _, _, i, v, .nil, h => by simp at h
  | _, _, 0, v, .cons r _, h => by simp at h; subst h; exact ⟨_, rfl, r⟩
  | _, _, i + 1, v, .cons _ t, h => by
    obtain ⟨w, h1, h2⟩ := vals_at (i := i) t (by simpa using h)
    exact ⟨w, by simpa using h1, h2⟩
theorem allR_ix {F : Hp} : ∀ {xs : List α} {vs : List V} {i : Nat} {v : V}, AllR R xs vs F → vs[i]? = some v → ∃ x, xs[i]? = some x ∧ (R x).p v F
  | [], [], i, v, _, h => by simp at h
  | x :: xs, w :: vs, 0, v, a, h => by simp at h; subst h; exact ⟨x, rfl, a.1⟩
  | x :: xs, w :: vs, i + 1, v, a, h => by
    obtain ⟨y, h1, h2⟩ := allR_ix (i := i) a.2 (by simpa using h)
    exact ⟨y, by simpa using h1, h2⟩
  | [], _ :: _, i, v, a, _ => a.elim
  | _ :: _, [], i, v, a, _ => a.elim
theorem te_minD {ma : S → (List α → S → Prop) → Prop} {d : α → PyData} {n : Nat} (P : BP X "min" (.builtin "min")) (ha : PE X a (tE B Γ (RList K R) ma)) (h : Dat K R d n) (al : ∀ x y : α, PySem.W.alike (d x) (d y) = true) (nn : ∀ x, d x ≠ .none) (hu : X.A.units + 65 < cLine) (hn : n ≤ 50 := by decide) (hK : X.K = K := by rfl) (hc : X.calm = true := by rfl)
    (hs : starEach [a] X.env = (false, eval a X.env) :: starEach [] X.env := by rfl) (hpl : (backTo pos (starEach [] X.env)).any (·.1) = false := by rfl) :
    PE X (.Call (.Name "min" p) [a] [] pos) (tE B Γ R (fun s K => ma s fun xs s1 => ∃ y, leastD d xs = some y ∧ K y s1)) := by
  subst hK
  let r : List V → Hp → VK → Prop := fun vs H Q => ∃ (q : Addr) (x : α) (xs : List α) (ws : List V) (F : Hp), vs = [V.ref q] ∧ SqL X.K H q ws ∧ AllR R (x :: xs) ws F ∧ Same F H ∧ ∀ y v, leastD d (x :: xs) = some y → (R y).p v F → Q v H
  have hr : CallR X (.builtin "min") r := by
    intro pins s σ H vs us Q I rv h'
    obtain ⟨q, x, xs, ws, F, rfl, hq, av, e, k⟩ := h'
    obtain ⟨its, rw', hl, _⟩ := I.list hq
    rw [Vals.ref1 rv]
    have dp : DpAll X.K H ws ((x :: xs).map d) := dpAllH rfl h e av
    obtain ⟨as, rd⟩ := Dp.readsAll I ((x :: xs).map d) ws its dp rw'
    have dep : PyData.depthAll ((x :: xs).map d) ≤ n := depAll h.dep _
    refine PySem.W.min_list_data (I.ok.hd hc) hl.isList (x := d x) (xs := xs.map d) rd ⟨fun a ha b hb => ?_, fun a ha => ?_⟩ (by have : PyData.depthAll (d x :: xs.map d) ≤ n := dep; show X.A.units + 1 + PyData.depthAll (d x :: xs.map d) < cLine; omega) fun i v h' tk bs hv hrd hk => ?_
    · obtain ⟨a', _, rfl⟩ := List.mem_map.mp (show a ∈ (x :: xs).map d from ha)
      obtain ⟨b', _, rfl⟩ := List.mem_map.mp (show b ∈ (x :: xs).map d from hb)
      exact al _ _
    · obtain ⟨a', _, rfl⟩ := List.mem_map.mp (show a ∈ (x :: xs).map d from ha)
      exact nn _
    · obtain ⟨wv, hw, rwv⟩ := vals_at (i := i) (v := v) rw' (by rw [← List.getElem?_toArray]; exact hv)
      obtain ⟨y, hy, ry⟩ := allR_ix av hw
      obtain ⟨bs2, rd2⟩ := Dp.reads I (d y) wv v (Dp.same e (h.dp y wv F ry)) rwv
      have ed : d y = PySem.W.minD (d x) (xs.map d) := SeqAt.Reads.unique _ _ v _ _ (h.lay y) (PySem.W.reads_keeps hk rd2) hrd
      have ey : y = xs.foldl (fun a y => if PySem.W.dataLt (d y) (d a) then y else a) x := by
        rw [← leastD_minD] at ed
        refine (h.inj _ _).mp ?_
        rw [ed]
        exact (h.inj _ _).mpr rfl
      exact ⟨wv, H, I.kept hk, rwv, k y wv (by rw [ey]; rfl) ry⟩
  exact pe_imp (pe_bf P hr (pa_cons ha pa_nil hs) hs hpl) fun σ H Q ⟨s, F, K', A, hm, k⟩ => ⟨s, F, _, A, hm, fun xs s1 v F1 H1 ⟨y, hy, q⟩ A1 e1 ⟨p1, ws, h1, h2, h3⟩ => by
    subst h1
    cases xs with
    | nil => cases hy
    | cons x xs =>
      exact ⟨p1, x, xs, ws, F1, rfl, seqL_mono A1.sub h2, h3, A1.sub, fun y' v' hy' ry' => by
        rw [hy] at hy'
        cases hy'
        exact k y s1 v' F1 H1 q A1 e1 ry'⟩⟩
end
end TL
namespace TL
open PySem L2
/-! ### calls with keywords -/
/-- the parameters' values out of the written ones and the keywords', by places -/
def permG (idx : List Nat) {α : Type} (us ws : List α) : List α := idx.filterMap fun i => (us ++ ws)[i]?
theorem vals_none {ws : List V} {its : List Value} {i : Nat} (r : Vals ws its) (h : its[i]? = none) : ws[i]? = none := by
  rw [List.getElem?_eq_none_iff] at h ⊢
  rw [r.length]; exact h
theorem permG_rel (idx : List Nat) {vs zs : List V} {us ws : List Value} (r : Vals vs us) (rz : Vals zs ws) : Vals (permG idx vs zs) (permG idx us ws) := by
  have ra := r.append rz
  unfold permG
  induction idx with
  | nil => exact .nil
  | cons i idx ih =>
    rw [List.filterMap_cons, List.filterMap_cons]
    cases e : (us ++ ws)[i]? with
    | none =>
      rw [vals_none ra e]
      exact ih
    | some u =>
      obtain ⟨w, hw, rw'⟩ := vals_at ra e
      rw [hw]
      exact .cons rw' ih
theorem kbn_of {K : PySem.W.Frag} {x qual : Str} {st : Stmt} {f : Addr} {fd : FuncData} {ps ks : List Str} (F : Fun K x qual st f fd) (n : Nat) (idx : List Nat)
    (h : ∀ (kV doc pm : Value) (an : Option Addr) (cdv ct : Value) (us ws : List Value), us.length = n → ws.length = ks.length → bindArgs (PySem.W.fnOf x qual (defArgs st) (defBody st) (defScope st) .none kV doc pm an cdv ct) ⟨us, ks.zip ws⟩ = pure (ps.zip (permG idx us ws))) :
    KBn K fd ps n ks (permG idx) (permG idx) := by
  obtain ⟨oc, od, kV, doc, pm, an, cdv, ct, osl, rfl, lk, hcd⟩ := F.ex
  exact ⟨fun s us ws _ l1 l2 => .of_eq (h kV doc pm an cdv ct us ws l1 l2), fun r rz => permG_rel idx r rz⟩

section
variable {X : Cx} {S : Type} {B : Bs} {Γ : S → List Sl} {α β ι ι' κ : Type} {R : α → Pd} {Rb : β → Pd} {As : ι → List Pd} {As' : ι' → List Pd} {Aw : κ → List Pd} {e o : Expr} {es : List Expr} {kws : List Keyword} {pos p apos kpos : Pos} {x mn : Str} {nm : Option Str} {k n : Nat} {f C : Addr} {fd : FuncData} {ps ks : List Str} {idx : List Nat}
variable {m : S → (α → S → Prop) → Prop} {mr : S → (ι → S → Prop) → Prop} {mk : S → (ι' → S → Prop) → Prop}
theorem tk_nil : PK X [] (tA B Γ anil (fun s K => K () s)) := ⟨fun pos pins s σ H Q I ⟨u, F, K', A, hm, k⟩ => pk_nil.run pos pins s σ H Q I (k () u [] F H hm A (Same.refl F) trivial)⟩
theorem pk_imp {t t' : TA} (h : PK X kws t) (i : ∀ σ H Q, t' σ H Q → t σ H Q) : PK X kws t' := ⟨fun pos pins s σ H Q I q => h.run pos pins s σ H Q I (i _ _ _ q)⟩
theorem tk_cons (h : PE X e (tE B Γ R m)) (hr : PK X kws (tA B Γ As mr)) : PK X (⟨nm, e, kpos⟩ :: kws) (tA B Γ (acons R As) (fun s K => m s fun x s1 => mr s1 fun y s2 => K (x, y) s2)) :=
  pk_imp (pk_cons h hr) fun σ H Q ⟨s, F, K', A, hm, k⟩ => ⟨s, F, _, A, hm, fun x s1 v F1 H1 h1 A1 e1 r1 => ⟨s1, F1, _, A1, h1, fun y s2 vs F2 H2 h2 A2 e2 r2 => k (x, y) s2 (v :: vs) F2 H2 h2 A2 (e1.trans e2) ⟨(R x).mono _ _ _ e2 r1, r2⟩⟩⟩
/-- the values are in the parameters' order what the def asks -/
def Ord (As : ι → List Pd) (As' : ι' → List Pd) (Aw : κ → List Pd) (φ : ι → ι' → κ) (idx : List Nat) : Prop := ∀ y z vs ws F, AllP (As y) vs F → AllP (As' z) ws F → AllP (Aw (φ y z)) (permG idx vs ws) F
theorem callK_p {mf : κ → (β → Prop) → Prop} {φ : ι → ι' → κ} {E : XK} {j : Nat} (hO : Ord As As' Aw φ idx) (hn : ∀ y, (As y).length = n) (hj : ∀ z, (As' z).length = j) {σ : L2.St} {H : Hp} {Q : VK}
    (q : tE B Γ Rb (fun s K => mr s fun y s1 => mk s1 fun z s2 => mf (φ y z) fun r => K r s2) σ H Q) : tCallN n j (spP Aw Rb mf) (permG idx) E (tA B Γ As mr) (tA B Γ As' mk) σ H Q := by
  obtain ⟨s, F, K', A, hm, k⟩ := q
  exact ⟨s, F, _, A, hm, fun y s1 vs F1 H1 h1 A1 e1 r1 => ⟨s1, F1, _, A1, h1, fun z s2 ws F2 H2 h2 A2 e2 r2 => ⟨by rw [r1.len]; exact hn y, by rw [r2.len]; exact hj z, φ y z, F2, _, hO y z vs ws F2 (r1.mono e2) r2, A2.sub, h2, fun r v F' H' kr rv eF eH sb nw => k r s2 v F' H' kr (A2.grow eF eH sb nw) ((e1.trans e2).trans eF) rv⟩⟩⟩
theorem pe_callN0 {CX : CXT} {sp : Sp} {E : XK} {tk : TA} {g : List Value → List Value → List Value} {gV : List V → List V → List V} (F : FnOk X.prog X.w X.K X.mg X.base CX k f fd ps sp) (hr : Room k X.A) (hg : Gl X x) (hm : X.mg x = some (.ref f)) (hk : PySem.W.keepIn X.K (.ref f) = true) (hb : KBn X.K fd ps 0 ks g gV) (hx : Passes CX X E)
    (hkw : PK X kws tk) (hall : (backToKw pos (keywordEach kws X.env)).all (·.1.isSome) = true := by rfl) (hks : (backToKw pos (keywordEach kws X.env)).filterMap (·.1) = ks := by rfl)
    (hdb : (x == ("__debug__" : Str)) = false := by decide)
    (hpl : ((backTo pos (starEach [] X.env)).any (·.1) || (backToKw pos (keywordEach kws X.env)).any (·.1.isNone)) = false := by rfl) :
    PE X (.Call (.Name x p) [] kws pos) (tCallN 0 ks.length sp gV E tNil tk) := by
  refine ⟨fun pins s σ H Q I h => ?_⟩
  refine wpAny_Call_Name_kw (ld_glob I hg hm ?_ hdb)
  refine PySem.W.callWith_KW0 (h₀ := X.base) I.ok.mod.kin hk hall ?_ hpl
  refine thn (hkw.run pos pins s σ H _ I h) fun ws s2 ⟨zs, H2, I2, rz, l1, l2, q2⟩ => ⟨I2.kIn, ?_⟩
  rw [hks]
  exact run_fnN F hr hb hx I2 .nil rz rfl l2 q2
/-- f(k = e, ..) -/
theorem te_callK0 {mf : κ → (β → Prop) → Prop} (φ : ι' → κ) (F : FnOk X.prog X.w X.K X.mg X.base CX0 k f fd ps (spP Aw Rb mf)) (hr : Room k X.A) (hm : X.mg x = some (.ref f)) (hk : PySem.W.keepIn X.K (.ref f) = true) (hb : KBn X.K fd ps 0 ks (permG idx) (permG idx)) (hkw : PK X kws (tA B Γ As' mk))
    (hO : Ord anil As' Aw (fun _ z => φ z) idx) (hj : ∀ z, (As' z).length = ks.length := by intro _; rfl) (hg : Gl X x := by rfl) (hdb : (x == ("__debug__" : Str)) = false := by decide)
    (hall : (backToKw pos (keywordEach kws X.env)).all (·.1.isSome) = true := by rfl) (hks : (backToKw pos (keywordEach kws X.env)).filterMap (·.1) = ks := by rfl) (hpl : ((backTo pos (starEach [] X.env)).any (·.1) || (backToKw pos (keywordEach kws X.env)).any (·.1.isNone)) = false := by rfl) :
    PE X (.Call (.Name x p) [] kws pos) (tE B Γ Rb (fun s K => mk s fun z s1 => mf (φ z) fun r => K r s1)) :=
  pe_imp (pe_callN0 F hr hg hm hk hb (pass0 (X := X)) hkw hall hks hdb hpl) fun σ H Q q => by
    obtain ⟨s, F, K', A, hm, k⟩ := q
    exact ⟨s, F, _, A, hm, fun z s1 ws F1 H1 h1 A1 e1 r1 => ⟨rfl, by rw [r1.len]; exact hj z, φ z, F1, _, hO () z [] ws F1 trivial r1, A1.sub, h1, fun r v F' H' kr rv eF eH sb nw => k r s1 v F' H' kr (A1.grow eF eH sb nw) (e1.trans eF) rv⟩⟩
/-- f(e, .., k = e, ..) -/
theorem te_callK {mf : κ → (β → Prop) → Prop} (φ : ι → ι' → κ) (F : FnOk X.prog X.w X.K X.mg X.base CX0 k f fd ps (spP Aw Rb mf)) (hr : Room k X.A) (hm : X.mg x = some (.ref f)) (hk : PySem.W.keepIn X.K (.ref f) = true) (hb : KBn X.K fd ps n ks (permG idx) (permG idx)) (ha : PA X (e :: es) (tA B Γ As mr)) (hkw : PK X kws (tA B Γ As' mk))
    (hO : Ord As As' Aw φ idx) (hn : ∀ y, (As y).length = n := by intro _; rfl) (hj : ∀ z, (As' z).length = ks.length := by intro _; rfl) (hg : Gl X x := by rfl) (hdb : (x == ("__debug__" : Str)) = false := by decide)
    (hall : (backToKw pos (keywordEach kws X.env)).all (·.1.isSome) = true := by rfl) (hks : (backToKw pos (keywordEach kws X.env)).filterMap (·.1) = ks := by rfl) (he : starEach (e :: es) X.env = (false, eval e X.env) :: starEach es X.env := by rfl) (hpl : ((backTo pos (starEach (e :: es) X.env)).any (·.1) || (backToKw pos (keywordEach kws X.env)).any (·.1.isNone)) = false := by rfl) :
    PE X (.Call (.Name x p) (e :: es) kws pos) (tE B Γ Rb (fun s K => mr s fun y s1 => mk s1 fun z s2 => mf (φ y z) fun r => K r s2)) :=
  pe_imp (pe_callN F hr hg hm hk hb (pass0 (X := X)) ha hkw hall hks hdb he hpl) fun σ H Q q => callK_p hO hn hj q

theorem te_methK0 {mf : κ → (β → Prop) → Prop} {pl : Sem Bool} (φ : α → ι' → κ) (hI : InsR R C mn) (ho : PE X o (tE B Γ R m)) (c : Cls X.K C) (hm : Meth X.K C mn f) (F : FnOk X.prog X.w X.K X.mg X.base CX0 k f fd ps (spP Aw Rb mf)) (hr : Room k X.A) (hb : KBn X.K fd ps 1 ks (permG idx) (permG idx)) (hkw : PK X kws (tA B Γ As' mk))
    (hO : ∀ x z v ws F, (R x).p v F → AllP (As' z) ws F → AllP (Aw (φ x z)) (permG idx [v] ws) F) (hj : ∀ z, (As' z).length = ks.length := by intro _; rfl)
    (hall : (backToKw pos (keywordEach kws X.env)).all (·.1.isSome) = true := by rfl) (hks : (backToKw pos (keywordEach kws X.env)).filterMap (·.1) = ks := by rfl) (hpl : ((backTo pos (starEach [] X.env)).any (·.1) || (backToKw pos (keywordEach kws X.env)).any (·.1.isNone)) = false := by rfl)
    (ht : eval (.Call (.Attribute o mn apos) [] kws pos) X.env = (do
      let ov ← eval o X.env
      standAt apos.atName
      let (f, first) ← holding [ov] (getMethod ov mn pl)
      callWith pos f first (backTo pos (starEach [] X.env)) (backToKw pos (keywordEach kws X.env))) := by rfl) :
    PE X (.Call (.Attribute o mn apos) [] kws pos) (tE B Γ Rb (fun s K => m s fun x s0 => mk s0 fun z s1 => mf (φ x z) fun r => K r s1)) := by
  refine ⟨fun pins s σ H Q I ⟨s', F', K', A, hmm, kk⟩ => ?_⟩
  refine PySem.W.methodCall_KW (pl := pl) (thn (ho.run pins s σ H (fun v H1 => ∃ (x : α) (s0 : S) (F0 : Hp), mk s0 (fun z s1 => mf (φ x z) fun r => K' r s1) ∧ At B (Γ s0) σ F0 H1 ∧ Same F' F0 ∧ (R x).p v F0) I ⟨s', F', _, A, hmm, fun x s0 v F0 H0 h0 A0 e0 r0 => ⟨x, s0, F0, h0, A0, e0, r0⟩⟩) fun u s1 ⟨xv, H1, I1, rx, x, s0, F0, h0, A0, e0, r0⟩ => ?_) ht
  obtain ⟨a, dx, fs, rfl, h2, h3⟩ := hI x xv F0 r0
  obtain rfl : u = Value.ref a := rx
  refine getmeth_ok I1 (A0.sub _ _ h2) c hm h3 ?_
  refine PySem.W.callWith_KW0 (first := [.ref a]) (h₀ := X.base) I.ok.mod.kin hm.kp hall ?_ hpl
  refine thn (hkw.run pos pins s1 σ H1 (fun ws H2 => ∃ (z : ι') (s2 : S) (F2 : Hp), mf (φ x z) (fun r => K' r s2) ∧ At B (Γ s2) σ F2 H2 ∧ Same F0 F2 ∧ AllP (As' z) ws F2) I1 ⟨s0, F0, _, A0, h0, fun z s2 ws F2 H2 q2 A2 e2 r2 => ⟨z, s2, F2, q2, A2, e2, r2⟩⟩) fun ws s2' ⟨zs, H2, I2, rz, z, s2, F2, q2, A2, e2, r2⟩ => ⟨I2.kIn, ?_⟩
  rw [hks]
  refine run_fnN (us := [.ref a]) (vs := [V.ref a]) F hr hb (pass0 (X := X)) I2 (.cons rfl .nil) rz rfl (by rw [r2.len]; exact hj z) ?_
  exact ⟨φ x z, F2, _, hO x z _ zs F2 ((R x).mono _ _ _ e2 r0) r2, A2.sub, q2, fun r v F'' H'' kr rv eF eH sb nw => kk r s2 v F'' H'' kr (A2.grow eF eH sb nw) ((e0.trans e2).trans eF) rv⟩
/-- C(k = e, ..) -/
theorem te_makeK0 {mf : κ → (α → Prop) → Prop} (φ : ι' → κ) (M : Mk X.K C f) (F : FnOk X.prog X.w X.K X.mg X.base CX0 k f fd ps (spI C Aw R mf)) (hr : Room (k + 1) X.A) (hm : X.mg x = some (.ref C)) (hb : KBn X.K fd ps 1 ks (permG (0 :: idx)) (permG (0 :: idx))) (hkw : PK X kws (tA B Γ As' mk))
    (hO : ∀ u z ws F, AllP (As' z) ws F → ∃ vs, permG (0 :: idx) [u] ws = u :: vs ∧ AllP (Aw (φ z)) vs F) (hj : ∀ z, (As' z).length = ks.length := by intro _; rfl) (hg : Gl X x := by rfl) (hdb : (x == ("__debug__" : Str)) = false := by decide)
    (hall : (backToKw pos (keywordEach kws X.env)).all (·.1.isSome) = true := by rfl) (hks : (backToKw pos (keywordEach kws X.env)).filterMap (·.1) = ks := by rfl) (hpl : ((backTo pos (starEach [] X.env)).any (·.1) || (backToKw pos (keywordEach kws X.env)).any (·.1.isNone)) = false := by rfl) :
    PE X (.Call (.Name x p) [] kws pos) (tE B Γ R (fun s K => mk s fun z s1 => mf (φ z) fun r => K r s1)) :=
  pe_imp (pe_makeK0 M F hr hg hm hb (pass0 (X := X)) hkw hall hks hdb hpl) fun σ H Q ⟨s, F, K', A, hm, k⟩ => ⟨s, F, _, A, hm, fun z s1 ws F1 H1 h1 A1 e1 r1 => ⟨rfl, by rw [r1.len]; exact hj z, fun a dx na nd ne => by
    obtain ⟨vs, ev, rv'⟩ := hO (.ref a) z ws F1 r1
    rw [ev]
    have fa := (A1.fresh na).1
    have fd' := (A1.fresh nd).1
    have keep : ∀ b u, H1 b = some u → (upd (upd H1 dx (.own a)) a (.ins C dx [])) b = some u := fun b u g => by
      rw [upd_ne (ne_of_none g na), upd_ne (ne_of_none g nd)]; exact g
    refine ⟨φ z, F1, _, a, dx, vs, rfl, rv', fun b u g => keep b u (A1.sub _ _ g), fa, fd', ne, upd_same, by rw [upd_ne ne, upd_same], h1, fun r F' H' kr rv eF eH sb nw => ⟨rfl, ?_⟩⟩
    refine k r s1 _ F' H' kr (A1.grow eF (fun b u g => eH b u (ne_of_none g na) (keep b u g)) sb fun b u g => ?_) (e1.trans eF) rv
    rcases nw b u g with z | z | z
    · exact .inl z
    · exact .inr (z ▸ na)
    · right
      cases q : H1 b with
      | none => rfl
      | some w => rw [keep b w q] at z; cases z⟩⟩
end
section
variable {X : Cx} {S : Type} {B : Bs} {Γ : S → List Sl} {α : Type} {R : α → Pd} {b : Expr} {pn apos cpos : Pos} {xn : Str}
theorem te_popAt (i : Nat) (get : S → List α) (put : S → List α → S) {mb : S → (Int → S → Prop) → Prop} (he : PE X b (tE B Γ RInt mb)) (hG : ∀ s, (Γ s)[i]? = some (.ow (OList R (get s))) := by intro _; rfl) (hP : ∀ s t, Γ (put s t) = (Γ s).set i (.ow (OList R t)) := by intro _ _; rfl)
    (hN : X.N[i]? = some xn := by rfl) (hv : Vis X.env.scope xn := by first | exact Or.inl rfl | exact Or.inr (Or.inl rfl) | exact Or.inr (Or.inr rfl)) (hd : (xn == ("__debug__" : Str)) = false := by decide) (hcd : (xn == ("__classdict__" : Str)) = false := by decide)
    (hs : starEach [b] X.env = (false, eval b X.env) :: starEach [] X.env := by rfl) (hpl : (backTo cpos (starEach [] X.env)).any (·.1) = false := by rfl)
    (hbase : attributeBase (.Name xn pn) "pop" X.env (eval (.Name xn pn) X.env) = eval (.Name xn pn) X.env := by rfl) (hline : (apos.endLine == cpos.line) = true := by rfl) (hfew : FewArgs X cpos [b] := by rfl) :
    PE X (.Call (.Attribute (.Name xn pn) "pop" apos) [b] [] cpos) (tE B Γ R (fun s K => mb s fun j s1 => ∃ y, (0 ≤ j ∧ j < ((get s1).length : Int) ∧ j ≤ 1000000 ∧ (get s1)[j.toNat]? = some y) ∧ K y (put s1 ((get s1).eraseIdx j.toNat)))) :=
  pe_imp (pe_bm PySem.F.plainAttrs_list PySem.F.slot_list_pop PySem.F.type_list_pop mt_popAt (pe_var hN hv hd hcd) (pa_cons he pa_nil hs) hbase hfew hline hs hpl) fun σ H Q ⟨s, F, K', A, hm, k⟩ => by
    obtain ⟨q, o, h1, h2, h3, ⟨vs, h4, h5⟩, h6⟩ := A.ow (hG s)
    subst h4
    refine ⟨_, h1, .inl ⟨rfl, vs, SqL.of h3⟩, s, F, _, A, hm, fun j s1 v F1 H1 ⟨y, ⟨j0, j1, j2, hy⟩, k1⟩ A1 e1 r1 => ?_⟩
    obtain ⟨q', o', g1, g2, g3, ⟨vs', g4, g5⟩, g6⟩ := A1.ow (hG s1)
    rw [h1] at g1
    cases g1
    subst g4
    obtain ⟨v', hv', rv'⟩ := g5.get hy
    have hi : ixN vs'.length j = some j.toNat := by
      unfold ixN
      rw [g5.len, if_pos j0, if_pos j1]
    refine ⟨q, vs', j, j.toNat, v', rfl, by rw [show v = V.int j from r1], g3, by omega, by omega, (ixN_seq hi).1, hv', k y (put s1 ((get s1).eraseIdx j.toNat)) v' F1 _ k1 ?_ e1 rv'⟩
    rw [hP]
    exact A1.write (hG s1) h1 ⟨_, rfl, g5.erase _⟩
end
/-- a tuple of whole numbers as data -/
def datT (x : List Int) : PyData := .tuple (x.map PyData.int)
theorem alikeInts : ∀ a b : List Int, PySem.W.alikeAll (a.map PyData.int) (b.map PyData.int) = true
  | [], b => by simp [PySem.W.alikeAll]
  | x :: a, [] => by simp [PySem.W.alikeAll]
  | x :: a, y :: b => by
    show (PySem.W.alike (.int x) (.int y) && PySem.W.alikeAll (a.map PyData.int) (b.map PyData.int)) = true
    rw [alikeInts a b]
    simp [PySem.W.alike]
theorem datT_al (x y : List Int) : PySem.W.alike (datT x) (datT y) = true := by
  show PySem.W.alikeAll _ _ = true
  exact alikeInts x y
theorem datT_nn (x : List Int) : datT x ≠ .none := fun h => nomatch h
section
variable {X : Cx} {S S' : Type} {B : Bs} {Γ : S → List Sl} {α β : Type} {R : α → Pd} {Rb : β → Pd} {P : Xt} {st : Stmt} {rest : List Stmt} {m : S → (List α → S → Prop) → Prop}
/-- a, b = a new list, [] -/
theorem ts_parOE {i j : Nat} {Γ' : S' → List Sl} {mk : S → List α → S'} {mr : S' → Prop} (h : PS X st (tPar i j (tCons (tN B Γ R m) (tCons (tLst tNil) tNil)))) (hG : ∀ s x, Γ' (mk s x) = ((Γ s).set i (.ow (OList R x))).set j (.ow (OList Rb []))) (hij : i ≠ j) (hr : PSs X rest (tS B Γ' P mr)) :
    PSs X (st :: rest) (tS B Γ P (fun s => m s fun x s1 => mr (mk s1 x))) :=
  pss_imp (pss_cons h hr) fun D σ H ⟨s, F, A, hm, L⟩ => ⟨s, F, _, A, hm, fun x s1 p vs F1 H1 h1 A1 e1 hp fp bp np av => ⟨Nat.zero_le _, fun q nq => ⟨.ref p, .ref q, rfl, mk s1 x, F1, by
    rw [hG]
    have npq : p ≠ q := ne_of_none hp nq
    have fr := A1.fresh nq
    have A2 := A1.layH (o := .lst []) nq
    have A3 := A2.setOw (i := i) (O := OList R x) (p := p) (o := .lst vs) fp (by rw [upd_ne npq]; exact hp) bp np ⟨vs, rfl, av⟩
    refine A3.setOw (i := j) (O := OList Rb []) (p := q) (o := .lst []) fr.1 upd_same fr.2 (fun z => ?_) ⟨[], rfl, trivial⟩
    rcases mem_owA_set z with z | z
    · simp [ownS] at z
      exact npq z.symm
    · exact A1.notOwn nq z, h1, L⟩⟩⟩
end
end TL
namespace G
open PySem L2 TL

def top (i : Nat) : Stmt := PySem.Challenge.pw_handlerims_k06_least_turned_and_turns_th.main.body.getD i (.Pass ⟨0, 0, 0, 0⟩)
abbrev s_l_jar : Stmt := (top 35)
abbrev s_l_draw : Stmt := (top 36)
abbrev s_l_pick : Stmt := (top 37)
abbrev s_l_letters : Stmt := (top 38)
abbrev s_l_drawn : Stmt := (top 41)
abbrev s_l_forms : Stmt := (top 39)
abbrev s_l_mixed : Stmt := (top 40)
abbrev s_is_listed : Stmt := (top 13)
abbrev s_is_integer : Stmt := (top 10)
abbrev s_is_within : Stmt := (top 11)
abbrev s_is_letter : Stmt := (top 12)
abbrev s_are_letters : Stmt := (top 14)
abbrev s_need_few : Stmt := (top 27)
abbrev s_are_short : Stmt := (top 26)
abbrev s_rounded_of : Stmt := (top 25)
abbrev s_Word___init__ : Stmt := (inClass (top 29) 0)
abbrev s_need_word : Stmt := (top 28)
abbrev s_turned_letters : Stmt := (top 31)
abbrev s_turn_to : Stmt := (top 32)
abbrev s_need_number : Stmt := (top 15)
abbrev s_Word_turned : Stmt := (inClass (top 29) 6)
abbrev s_Word___eq__ : Stmt := (inClass (top 29) 11)
abbrev s_l_pair_right : Stmt := (top 42)
abbrev s_least_turned : Stmt := (top 33)
abbrev s_l_least_right : Stmt := (top 43)
abbrev s_Word_then : Stmt := (inClass (top 29) 7)
abbrev s_contrary_of : Stmt := (top 23)
abbrev s_Word_contrary : Stmt := (inClass (top 29) 3)
abbrev s_shortened_of : Stmt := (top 24)
abbrev s_Word_shortened_round : Stmt := (inClass (top 29) 5)
abbrev s_l_moved_right : Stmt := (top 44)
abbrev s_law : Stmt := (top 45)
theorem sc_l_jar : FnScope ["_law_script", "_law_cell"] ["_law_script"] (defScope s_l_jar) := ⟨rfl, rfl, rfl, by decide +kernel, rfl, by decide +kernel, by decide +kernel⟩
theorem sc_l_draw : FnScope ["_law_jar_here", "_law_many", "_law_rest", "_law_at", "_law_cell", "_law_mixed_here"] ["_law_jar_here", "_law_many"] (defScope s_l_draw) := ⟨rfl, rfl, rfl, by decide +kernel, rfl, by decide +kernel, by decide +kernel⟩
theorem sc_l_pick : FnScope ["_law_jar_here", "_law_some"] ["_law_jar_here", "_law_some"] (defScope s_l_pick) := ⟨rfl, rfl, rfl, by decide +kernel, rfl, by decide +kernel, by decide +kernel⟩
theorem sc_l_letters : FnScope ["_law_jar_here", "_law_many", "_law_kinds", "_law_found", "_law_turn", "_law_kind"] ["_law_jar_here", "_law_many", "_law_kinds"] (defScope s_l_letters) := ⟨rfl, rfl, rfl, by decide +kernel, rfl, by decide +kernel, by decide +kernel⟩
theorem sc_l_drawn : FnScope ["_law_jar_here", "_law_way", "_law_kinds", "_law_letters_here", "_law_at"] ["_law_jar_here"] (defScope s_l_drawn) := ⟨rfl, rfl, rfl, by decide +kernel, rfl, by decide +kernel, by decide +kernel⟩
theorem sc_l_forms : FnScope ["_law_letters_here", "_law_found", "_law_turn"] ["_law_letters_here"] (defScope s_l_forms) := ⟨rfl, rfl, rfl, by decide +kernel, rfl, by decide +kernel, by decide +kernel⟩
theorem sc_l_mixed : FnScope ["_law_jar_here", "_law_some", "_law_left", "_law_found", "_law_turn"] ["_law_jar_here", "_law_some"] (defScope s_l_mixed) := ⟨rfl, rfl, rfl, by decide +kernel, rfl, by decide +kernel, by decide +kernel⟩
theorem sc_is_listed : FnScope ["value"] ["value"] (defScope s_is_listed) := ⟨rfl, rfl, rfl, by decide +kernel, rfl, by decide +kernel, by decide +kernel⟩
theorem sc_is_integer : FnScope ["value"] ["value"] (defScope s_is_integer) := ⟨rfl, rfl, rfl, by decide +kernel, rfl, by decide +kernel, by decide +kernel⟩
theorem sc_is_within : FnScope ["value", "least", "most"] ["value", "least", "most"] (defScope s_is_within) := ⟨rfl, rfl, rfl, by decide +kernel, rfl, by decide +kernel, by decide +kernel⟩
theorem sc_is_letter : FnScope ["value"] ["value"] (defScope s_is_letter) := ⟨rfl, rfl, rfl, by decide +kernel, rfl, by decide +kernel, by decide +kernel⟩
theorem sc_are_letters : FnScope ["value", "each"] ["value"] (defScope s_are_letters) := ⟨rfl, rfl, rfl, by decide +kernel, rfl, by decide +kernel, by decide +kernel⟩
theorem sc_need_few : FnScope ["many"] ["many"] (defScope s_need_few) := ⟨rfl, rfl, rfl, by decide +kernel, rfl, by decide +kernel, by decide +kernel⟩
theorem sc_are_short : FnScope ["letters", "one", "other"] ["letters"] (defScope s_are_short) := ⟨rfl, rfl, rfl, by decide +kernel, rfl, by decide +kernel, by decide +kernel⟩
theorem sc_rounded_of : FnScope ["letters", "many", "at"] ["letters"] (defScope s_rounded_of) := ⟨rfl, rfl, rfl, by decide +kernel, rfl, by decide +kernel, by decide +kernel⟩
theorem sc_Word___init__ : FnScope ["self", "letters", "letter"] ["self", "letters"] (defScope s_Word___init__) := ⟨rfl, rfl, rfl, by decide +kernel, rfl, by decide +kernel, by decide +kernel⟩
theorem sc_need_word : FnScope ["value", "part"] ["value", "part"] (defScope s_need_word) := ⟨rfl, rfl, rfl, by decide +kernel, rfl, by decide +kernel, by decide +kernel⟩
theorem sc_turned_letters : FnScope ["letters", "by"] ["letters", "by"] (defScope s_turned_letters) := ⟨rfl, rfl, rfl, by decide +kernel, rfl, by decide +kernel, by decide +kernel⟩
theorem sc_turn_to : FnScope ["one", "other", "by"] ["one", "other"] (defScope s_turn_to) := ⟨rfl, rfl, rfl, by decide +kernel, rfl, by decide +kernel, by decide +kernel⟩
theorem sc_need_number : FnScope ["value", "part", "least", "most"] ["value", "part", "least", "most"] (defScope s_need_number) := ⟨rfl, rfl, rfl, by decide +kernel, rfl, by decide +kernel, by decide +kernel⟩
theorem sc_Word_turned : FnScope ["self", "by", "at"] ["self", "by"] (defScope s_Word_turned) := ⟨rfl, rfl, rfl, by decide +kernel, rfl, by decide +kernel, by decide +kernel⟩
theorem sc_Word___eq__ : FnScope ["self", "other"] ["self", "other"] (defScope s_Word___eq__) := ⟨rfl, rfl, rfl, by decide +kernel, rfl, by decide +kernel, by decide +kernel⟩
theorem sc_l_pair_right : FnScope ["_law_letters_here", "_law_others", "_law_one", "_law_other", "_law_mine", "_law_its", "_law_first", "_law_second", "_law_forms_here", "_law_due", "_law_told", "_law_by", "_law_form"] ["_law_letters_here", "_law_others"] (defScope s_l_pair_right) := ⟨rfl, rfl, rfl, by decide +kernel, rfl, by decide +kernel, by decide +kernel⟩
theorem sc_least_turned : FnScope ["word", "by"] ["word"] (defScope s_least_turned) := ⟨rfl, rfl, rfl, by decide +kernel, rfl, by decide +kernel, by decide +kernel⟩
theorem sc_l_least_right : FnScope ["_law_jar_here", "_law_letters_here", "_law_word", "_law_least", "_law_told", "_law_turn", "_law_by"] ["_law_jar_here", "_law_letters_here"] (defScope s_l_least_right) := ⟨rfl, rfl, rfl, by decide +kernel, rfl, by decide +kernel, by decide +kernel⟩
theorem sc_Word_then : FnScope ["self", "other"] ["self", "other"] (defScope s_Word_then) := ⟨rfl, rfl, rfl, by decide +kernel, rfl, by decide +kernel, by decide +kernel⟩
theorem sc_contrary_of : FnScope ["letters", "letter"] ["letters"] (defScope s_contrary_of) := ⟨rfl, rfl, rfl, by decide +kernel, rfl, by decide +kernel, by decide +kernel⟩
theorem sc_Word_contrary : FnScope ["self"] ["self"] (defScope s_Word_contrary) := ⟨rfl, rfl, rfl, by decide +kernel, rfl, by decide +kernel, by decide +kernel⟩
theorem sc_shortened_of : FnScope ["letters", "found", "letter"] ["letters"] (defScope s_shortened_of) := ⟨rfl, rfl, rfl, by decide +kernel, rfl, by decide +kernel, by decide +kernel⟩
theorem sc_Word_shortened_round : FnScope ["self"] ["self"] (defScope s_Word_shortened_round) := ⟨rfl, rfl, rfl, by decide +kernel, rfl, by decide +kernel, by decide +kernel⟩
theorem sc_l_moved_right : FnScope ["_law_jar_here", "_law_letters_here", "_law_ahead", "_law_word", "_law_moved", "_law_bare"] ["_law_jar_here", "_law_letters_here"] (defScope s_l_moved_right) := ⟨rfl, rfl, rfl, by decide +kernel, rfl, by decide +kernel, by decide +kernel⟩
theorem sc_law : FnScope ["_law_script", "_law_jar_here", "_law_lap", "_law_letters_here", "_law_others", "_law_by", "_law_turned", "_law_told", "_law_wide", "_law_none", "_law_letter"] ["_law_script"] (defScope s_law) := ⟨rfl, rfl, rfl, by decide +kernel, rfl, by decide +kernel, by decide +kernel⟩
structure Tx (K : PySem.W.Frag) (mg : Str → Option Value) where
  a_l_jar : Addr
  d_l_jar : FuncData
  F_l_jar : Fun K "_law_jar" "_law_jar" s_l_jar a_l_jar d_l_jar
  b_l_jar : Binds K d_l_jar ["_law_script"] []
  g_l_jar : mg "_law_jar" = some (.ref a_l_jar)
  a_l_draw : Addr
  d_l_draw : FuncData
  F_l_draw : Fun K "_law_draw" "_law_draw" s_l_draw a_l_draw d_l_draw
  b_l_draw : Binds K d_l_draw ["_law_jar_here", "_law_many"] []
  g_l_draw : mg "_law_draw" = some (.ref a_l_draw)
  a_l_pick : Addr
  d_l_pick : FuncData
  F_l_pick : Fun K "_law_pick" "_law_pick" s_l_pick a_l_pick d_l_pick
  b_l_pick : Binds K d_l_pick ["_law_jar_here", "_law_some"] []
  g_l_pick : mg "_law_pick" = some (.ref a_l_pick)
  a_l_letters : Addr
  d_l_letters : FuncData
  F_l_letters : Fun K "_law_letters" "_law_letters" s_l_letters a_l_letters d_l_letters
  b_l_letters : Binds K d_l_letters ["_law_jar_here", "_law_many", "_law_kinds"] []
  g_l_letters : mg "_law_letters" = some (.ref a_l_letters)
  a_l_drawn : Addr
  d_l_drawn : FuncData
  F_l_drawn : Fun K "_law_drawn" "_law_drawn" s_l_drawn a_l_drawn d_l_drawn
  b_l_drawn : Binds K d_l_drawn ["_law_jar_here"] []
  g_l_drawn : mg "_law_drawn" = some (.ref a_l_drawn)
  a_l_forms : Addr
  d_l_forms : FuncData
  F_l_forms : Fun K "_law_forms" "_law_forms" s_l_forms a_l_forms d_l_forms
  b_l_forms : Binds K d_l_forms ["_law_letters_here"] []
  g_l_forms : mg "_law_forms" = some (.ref a_l_forms)
  a_l_mixed : Addr
  d_l_mixed : FuncData
  F_l_mixed : Fun K "_law_mixed" "_law_mixed" s_l_mixed a_l_mixed d_l_mixed
  b_l_mixed : Binds K d_l_mixed ["_law_jar_here", "_law_some"] []
  g_l_mixed : mg "_law_mixed" = some (.ref a_l_mixed)
  a_is_listed : Addr
  d_is_listed : FuncData
  F_is_listed : Fun K "is_listed" "is_listed" s_is_listed a_is_listed d_is_listed
  b_is_listed : Binds K d_is_listed ["value"] []
  g_is_listed : mg "is_listed" = some (.ref a_is_listed)
  a_is_integer : Addr
  d_is_integer : FuncData
  F_is_integer : Fun K "is_integer" "is_integer" s_is_integer a_is_integer d_is_integer
  b_is_integer : Binds K d_is_integer ["value"] []
  g_is_integer : mg "is_integer" = some (.ref a_is_integer)
  a_is_within : Addr
  d_is_within : FuncData
  F_is_within : Fun K "is_within" "is_within" s_is_within a_is_within d_is_within
  b_is_within : Binds K d_is_within ["value", "least", "most"] []
  g_is_within : mg "is_within" = some (.ref a_is_within)
  a_is_letter : Addr
  d_is_letter : FuncData
  F_is_letter : Fun K "is_letter" "is_letter" s_is_letter a_is_letter d_is_letter
  b_is_letter : Binds K d_is_letter ["value"] []
  g_is_letter : mg "is_letter" = some (.ref a_is_letter)
  a_are_letters : Addr
  d_are_letters : FuncData
  F_are_letters : Fun K "are_letters" "are_letters" s_are_letters a_are_letters d_are_letters
  b_are_letters : Binds K d_are_letters ["value"] []
  g_are_letters : mg "are_letters" = some (.ref a_are_letters)
  a_need_few : Addr
  d_need_few : FuncData
  F_need_few : Fun K "need_few" "need_few" s_need_few a_need_few d_need_few
  b_need_few : Binds K d_need_few ["many"] []
  g_need_few : mg "need_few" = some (.ref a_need_few)
  a_are_short : Addr
  d_are_short : FuncData
  F_are_short : Fun K "are_short" "are_short" s_are_short a_are_short d_are_short
  b_are_short : Binds K d_are_short ["letters"] []
  g_are_short : mg "are_short" = some (.ref a_are_short)
  a_rounded_of : Addr
  d_rounded_of : FuncData
  F_rounded_of : Fun K "rounded_of" "rounded_of" s_rounded_of a_rounded_of d_rounded_of
  b_rounded_of : Binds K d_rounded_of ["letters"] []
  g_rounded_of : mg "rounded_of" = some (.ref a_rounded_of)
  a_Word___init__ : Addr
  d_Word___init__ : FuncData
  F_Word___init__ : Fun K "__init__" "Word.__init__" s_Word___init__ a_Word___init__ d_Word___init__
  b_Word___init__ : Binds K d_Word___init__ ["self", "letters"] []
  a_need_word : Addr
  d_need_word : FuncData
  F_need_word : Fun K "need_word" "need_word" s_need_word a_need_word d_need_word
  b_need_word : Binds K d_need_word ["value", "part"] []
  g_need_word : mg "need_word" = some (.ref a_need_word)
  a_turned_letters : Addr
  d_turned_letters : FuncData
  F_turned_letters : Fun K "turned_letters" "turned_letters" s_turned_letters a_turned_letters d_turned_letters
  b_turned_letters : Binds K d_turned_letters ["letters", "by"] []
  g_turned_letters : mg "turned_letters" = some (.ref a_turned_letters)
  a_turn_to : Addr
  d_turn_to : FuncData
  F_turn_to : Fun K "turn_to" "turn_to" s_turn_to a_turn_to d_turn_to
  b_turn_to : Binds K d_turn_to ["one", "other"] []
  g_turn_to : mg "turn_to" = some (.ref a_turn_to)
  a_need_number : Addr
  d_need_number : FuncData
  F_need_number : Fun K "need_number" "need_number" s_need_number a_need_number d_need_number
  b_need_number : Binds K d_need_number ["value", "part", "least", "most"] []
  g_need_number : mg "need_number" = some (.ref a_need_number)
  a_Word_turned : Addr
  d_Word_turned : FuncData
  F_Word_turned : Fun K "turned" "Word.turned" s_Word_turned a_Word_turned d_Word_turned
  b_Word_turned : Binds K d_Word_turned ["self", "by"] []
  a_Word___eq__ : Addr
  d_Word___eq__ : FuncData
  F_Word___eq__ : Fun K "__eq__" "Word.__eq__" s_Word___eq__ a_Word___eq__ d_Word___eq__
  b_Word___eq__ : Binds K d_Word___eq__ ["self", "other"] []
  a_l_pair_right : Addr
  d_l_pair_right : FuncData
  F_l_pair_right : Fun K "_law_pair_right" "_law_pair_right" s_l_pair_right a_l_pair_right d_l_pair_right
  b_l_pair_right : Binds K d_l_pair_right ["_law_letters_here", "_law_others"] []
  g_l_pair_right : mg "_law_pair_right" = some (.ref a_l_pair_right)
  a_least_turned : Addr
  d_least_turned : FuncData
  F_least_turned : Fun K "least_turned" "least_turned" s_least_turned a_least_turned d_least_turned
  b_least_turned : Binds K d_least_turned ["word"] []
  g_least_turned : mg "least_turned" = some (.ref a_least_turned)
  a_l_least_right : Addr
  d_l_least_right : FuncData
  F_l_least_right : Fun K "_law_least_right" "_law_least_right" s_l_least_right a_l_least_right d_l_least_right
  b_l_least_right : Binds K d_l_least_right ["_law_jar_here", "_law_letters_here"] []
  g_l_least_right : mg "_law_least_right" = some (.ref a_l_least_right)
  a_Word_then : Addr
  d_Word_then : FuncData
  F_Word_then : Fun K "then" "Word.then" s_Word_then a_Word_then d_Word_then
  b_Word_then : Binds K d_Word_then ["self", "other"] []
  a_contrary_of : Addr
  d_contrary_of : FuncData
  F_contrary_of : Fun K "contrary_of" "contrary_of" s_contrary_of a_contrary_of d_contrary_of
  b_contrary_of : Binds K d_contrary_of ["letters"] []
  g_contrary_of : mg "contrary_of" = some (.ref a_contrary_of)
  a_Word_contrary : Addr
  d_Word_contrary : FuncData
  F_Word_contrary : Fun K "contrary" "Word.contrary" s_Word_contrary a_Word_contrary d_Word_contrary
  b_Word_contrary : Binds K d_Word_contrary ["self"] []
  a_shortened_of : Addr
  d_shortened_of : FuncData
  F_shortened_of : Fun K "shortened_of" "shortened_of" s_shortened_of a_shortened_of d_shortened_of
  b_shortened_of : Binds K d_shortened_of ["letters"] []
  g_shortened_of : mg "shortened_of" = some (.ref a_shortened_of)
  a_Word_shortened_round : Addr
  d_Word_shortened_round : FuncData
  F_Word_shortened_round : Fun K "shortened_round" "Word.shortened_round" s_Word_shortened_round a_Word_shortened_round d_Word_shortened_round
  b_Word_shortened_round : Binds K d_Word_shortened_round ["self"] []
  a_l_moved_right : Addr
  d_l_moved_right : FuncData
  F_l_moved_right : Fun K "_law_moved_right" "_law_moved_right" s_l_moved_right a_l_moved_right d_l_moved_right
  b_l_moved_right : Binds K d_l_moved_right ["_law_jar_here", "_law_letters_here"] []
  g_l_moved_right : mg "_law_moved_right" = some (.ref a_l_moved_right)
  a_law : Addr
  d_law : FuncData
  F_law : Fun K "law" "law" s_law a_law d_law
  b_law : Binds K d_law ["_law_script"] []
  g_law : mg "law" = some (.ref a_law)
  C_Word : Addr
  g_Word : mg "Word" = some (.ref C_Word)
  cls_Word : Cls K C_Word
  mk_Word : Mk K C_Word a_Word___init__
  na_Word_is_short : NoAttr K C_Word "is_short"
  na_Word_is_short_round : NoAttr K C_Word "is_short_round"
  na_Word_kinds : NoAttr K C_Word "kinds"
  na_Word_length : NoAttr K C_Word "length"
  na_Word_letters : NoAttr K C_Word "letters"
  me_Word_contrary : Meth K C_Word "contrary" a_Word_contrary
  me_Word_shortened_round : Meth K C_Word "shortened_round" a_Word_shortened_round
  me_Word_then : Meth K C_Word "then" a_Word_then
  me_Word_turned : Meth K C_Word "turned" a_Word_turned
  isc_Word : C8.InsC K C_Word
  eq_Word : PySem.W.findIn K (.ref C_Word) "__eq__" = some (some (.ref a_Word___eq__))
  eqf_Word : PySem.W.isFn K (.ref a_Word___eq__) = true
  ne_Word : PySem.W.findIn K (.ref C_Word) "__ne__" = some (some (.builtin "object.__ne__"))
  z_abs : mg "abs" = none
  z_all : mg "all" = none
  z_bool : mg "bool" = none
  z_enumerate : mg "enumerate" = none
  z_int : mg "int" = none
  z_isinstance : mg "isinstance" = none
  z_len : mg "len" = none
  z_list : mg "list" = none
  z_max : mg "max" = none
  z_min : mg "min" = none
  z_range : mg "range" = none
  z_sorted : mg "sorted" = none
  z_tuple : mg "tuple" = none
  z_zip : mg "zip" = none
  c_LAST_KIND : ∃ t, mg "LAST_KIND" = some (.int 26 t)
  c_MOST_LETTERS : ∃ t, mg "MOST_LETTERS" = some (.int 500 t)
section
variable {P : Program} {w : World} {K : PySem.W.Frag} {mg : Str → Option Value} {base : Heap}
def m_l_jar (p_l_script : (List Int)) (Kf : Jar → Prop) : Prop :=
  ((pyCut p_l_script none (some (59 : Int))).length ≤ 1000000 ∧ mMap (pyCut p_l_script none (some (59 : Int))) (fun (x1 : Int) K3 => K3 x1) fun ys4 => Kf (ys4, (0 : Int), (0 : Int)))
theorem ok_l_jar (T : Tx K mg) : FnOk P w K mg base CX0 1 T.a_l_jar T.d_l_jar ["_law_script"] (spO OJar (acons (RList K RInt) anil) (fun (y : (List Int) × Unit) Kf => m_l_jar y.1 Kf)) :=
  fnO T.F_l_jar sc_l_jar (fun _ => rfl) fun cdv A outer s H E hr y Kf B => ts_use (
  (ts_retJar (te_lst (tn_map sc_l_jar.nd (ti_list (K := K) (te_known (K := K) (tn_cut (te_var 0 (R := (RList K RInt)) (f := fun (s : Unit) => y.1)) to_none (to_some te_int)))) (blkOk_by (own := [("_law_cell", 1)]) (N := ["_law_script", "_law_cell"]) (sc := defScope s_l_jar) (by decide +kernel)) (fun _ _ _ _ _ => (pg_name (i := 1) sc_l_jar.nd rfl (Or.inl rfl))) (tg_name 1) (fun s2 x1 B' s H C cl fp => (te_toint (bp_int T.z_int) (te_var 1 (R := RInt) (f := fun (s : Unit) => x1)))))) te_int te_int)) (by exact fun _ h => h)
def m_l_draw (p_l_many : Int) (t : Jar) (Kf : Int → Jar → Prop) : Prop :=
  (if (decide ((0 : Int) < t.2.2)) = true then (CDivN t.2.2 p_l_many ∧ (p_l_many ≠ 0 ∧ Kf (t.2.2.fmod p_l_many) (t.1, t.2.1, (t.2.2.fdiv p_l_many)))) else
  (CMul (51133 : Int) t.2.1 ∧ (fun (l_cell9 : Int) => (([] : List Int).length ≤ 1000000 ∧ mIf (!decide ((t.1, (t.2.1 + (1 : Int)), t.2.2).1 = ([] : List Int))) (fun (Kn11 : Jar × Int → Prop) => ((((t.1, (t.2.1 + (1 : Int)), t.2.2).1).length : Int) ≠ 0 ∧ (∃ v18, pyAt ((t.1, (t.2.1 + (1 : Int)), t.2.2).1) (t.2.1.fmod (((t.1, (t.2.1 + (1 : Int)), t.2.2).1).length : Int)) = some v18 ∧ Kn11 ((t.1, (t.2.1 + (1 : Int)), t.2.2), v18)))) (fun (Kn12 : Jar × Int → Prop) => Kn12 ((t.1, (t.2.1 + (1 : Int)), t.2.2), l_cell9)) (fun (s17 : Jar × Int) =>
  mB (fun (K19 : Bool → Jar × Int → Prop) => (if (decide (t.2.1 < (s17.1.1.length : Int))) = true then (CPow (10 : Int) (18 : Int) ∧ K19 (decide (((10 : Int) ^ (18 : Int).toNat) ≤ (s17.2.natAbs : Int))) (s17.1, s17.2)) else K19 false (s17.1, s17.2))) (fun b20 s21 => (if b20 = true then (CPow (10 : Int) (18 : Int) ∧ (CMul (2 : Int) ((s21.2.natAbs : Int) - ((10 : Int) ^ (18 : Int).toNat)) ∧ (fun (l_rest14 : Int) => (CDivN l_rest14 p_l_many ∧ (p_l_many ≠ 0 ∧ Kf (l_rest14.fmod p_l_many) (s21.1.1, s21.1.2.1, (l_rest14.fdiv p_l_many))))) (((2 : Int) * ((s21.2.natAbs : Int) - ((10 : Int) ^ (18 : Int).toNat))) + (if (decide (s21.2 < (0 : Int))) then 1 else 0)))) else
  ((2147483549 : Int) ≠ 0 ∧ (CMul (33317 : Int) t.2.1 ∧ (CPow (((s21.2.fmod (2147483549 : Int)) + ((33317 : Int) * t.2.1)) + (6037 : Int)) (5 : Int) ∧ ((2147483587 : Int) ≠ 0 ∧ (fun (l_mixed_here15 : Int) => (CMul (2 : Int) t.2.1 ∧ (CMul l_mixed_here15 (((2 : Int) * t.2.1) + (1831 : Int)) ∧ (CMul (51133 : Int) t.2.1 ∧ (CMul ((51133 : Int) * t.2.1) t.2.1 ∧ (CPow (((l_mixed_here15 * (((2 : Int) * t.2.1) + (1831 : Int))) + (((51133 : Int) * t.2.1) * t.2.1)) + (44123 : Int)) (3 : Int) ∧ ((2147483629 : Int) ≠ 0 ∧ (fun (l_mixed_here16 : Int) => (CDivN l_mixed_here16 (64 : Int) ∧ (p_l_many ≠ 0 ∧ Kf ((l_mixed_here16.fdiv (64 : Int)).fmod p_l_many) s21.1))) (((((l_mixed_here15 * (((2 : Int) * t.2.1) + (1831 : Int))) + (((51133 : Int) * t.2.1) * t.2.1)) + (44123 : Int)) ^ (3 : Int).toNat).fmod (2147483629 : Int))))))))) (((((s21.2.fmod (2147483549 : Int)) + ((33317 : Int) * t.2.1)) + (6037 : Int)) ^ (5 : Int).toNat).fmod (2147483587 : Int))))))))))) (((51133 : Int) * t.2.1) + (6037 : Int))))
theorem ok_l_draw (T : Tx K mg) : FnOk P w K mg base CX0 1 T.a_l_draw T.d_l_draw ["_law_jar_here", "_law_many"] (spB OJar (acons RInt anil) RInt (fun (y : Int × Unit) t Kf => m_l_draw y.1 t Kf)) :=
  fnB T.F_l_draw sc_l_draw (fun _ => rfl) fun cdv A outer s H E hr j y Kf B => ts_use (
  (ts_ifr (tt_c cr_gt (te_jar2 0 (fun (s : Jar) => s)) te_int)
  (ts_set (i := 2) (R := RInt) (ps_set sc_l_draw.nd rfl (Or.inl rfl) (te_toint (bp_int T.z_int) (te_jar2 0 (fun (s : Jar) => s)))) (fun l_rest7 =>
  (ts_jar2 0 (fun (s : Jar) => s) (fun (s : Jar) t => t) (te_fdiv (te_var 2 (R := RInt) (f := fun (s : Jar) => l_rest7)) (te_var 1 (R := RInt) (f := fun (s : Jar) => y.1)))
  (ts_retB 0 (fun (s : Jar) => s) (te_mod (te_toint (bp_int T.z_int) (te_var 2 (R := RInt) (f := fun (s : Jar) => l_rest7))) (te_var 1 (R := RInt) (f := fun (s : Jar) => y.1)))))))
  (ts_set (i := 3) (R := RInt) (ps_set sc_l_draw.nd rfl (Or.inl rfl) (te_jar1 0 (fun (s : Jar) => s))) (fun l_at8 =>
  (ts_jar1 0 (fun (s : Jar) => s) (fun (s : Jar) t => t) (te_add (te_var 3 (R := RInt) (f := fun (s : Jar) => l_at8)) te_int)
  (ts_set (i := 4) (R := RInt) (ps_set sc_l_draw.nd rfl (Or.inl rfl) (te_add (te_mul te_int (te_var 3 (R := RInt) (f := fun (s : Jar) => l_at8))) te_int)) (fun l_cell9 =>
  (ts_if (Γj := fun s : Jar × Int => [.bo j (OJar s.1), .im (RInt y.1), .any, .im (RInt l_at8), .im (RInt s.2), .any]) (tt_c (cr_neD (K := K) rfl hr.units (dat_lst dat_int)) (te_jar0 0 (fun (s : Jar) => s)) (te_lst (tn_list (R := RInt) tl_nil)))
  (fun Kn11 => (ts_set (i := 4) (R := RInt) (ps_set sc_l_draw.nd rfl (Or.inl rfl) (te_ixL (te_l (te_jar0 0 (fun (s : Jar) => s))) (te_mod (te_toint (bp_int T.z_int) (te_var 3 (R := RInt) (f := fun (s : Jar) => l_at8))) (te_len (bp_len T.z_len) lens_list (te_l (te_jar0 0 (fun (s : Jar) => s))))))) (fun l_cell13 =>
  (ts_end (Γj := fun s : Jar × Int => [.bo j (OJar s.1), .im (RInt y.1), .any, .im (RInt l_at8), .im (RInt s.2), .any]) (fun (s : Jar) => (s, l_cell13)) (fun s => (.same (.same (.drop (.same (.same (.drop .nil)))))))))))
  (fun Kn12 => (ts_end (Γj := fun s : Jar × Int => [.bo j (OJar s.1), .im (RInt y.1), .any, .im (RInt l_at8), .im (RInt s.2), .any]) (fun (s : Jar) => (s, l_cell9)) (fun s => (.same (.same (.drop (.same (.same (.drop .nil)))))))))
  (ts_ifr (tt_w (tw_and (tt_c cr_lt (te_var 3 (R := RInt) (f := fun (s : Jar × Int) => l_at8)) (te_len (bp_len T.z_len) lens_list (te_l (te_jar0 0 (fun (s : Jar × Int) => s.1))))) (tw_and1 (tt_c cr_ge (te_abs (bp_abs T.z_abs) (te_var 4 (R := RInt) (f := fun (s : Jar × Int) => s.2))) (te_pow te_int te_int)))))
  (ts_set (i := 2) (R := RInt) (ps_set sc_l_draw.nd rfl (Or.inl rfl) (te_add (te_mul te_int (te_sub (te_abs (bp_abs T.z_abs) (te_var 4 (R := RInt) (f := fun (s : Jar × Int) => s.2))) (te_pow te_int te_int))) (te_bint (bp_int T.z_int) (te_c cr_lt (te_var 4 (R := RInt) (f := fun (s : Jar × Int) => s.2)) te_int)))) (fun l_rest14 =>
  (ts_jar2 0 (fun (s : Jar × Int) => s.1) (fun (s : Jar × Int) t => (t, s.2)) (te_fdiv (te_toint (bp_int T.z_int) (te_var 2 (R := RInt) (f := fun (s : Jar × Int) => l_rest14))) (te_var 1 (R := RInt) (f := fun (s : Jar × Int) => y.1)))
  (ts_retB 0 (fun (s : Jar × Int) => s.1) (te_mod (te_toint (bp_int T.z_int) (te_var 2 (R := RInt) (f := fun (s : Jar × Int) => l_rest14))) (te_var 1 (R := RInt) (f := fun (s : Jar × Int) => y.1)))))))
  (ts_set (i := 5) (R := RInt) (ps_set sc_l_draw.nd rfl (Or.inl rfl) (te_mod (te_toint (bp_int T.z_int) (te_pow (te_add (te_add (te_mod (te_toint (bp_int T.z_int) (te_var 4 (R := RInt) (f := fun (s : Jar × Int) => s.2))) te_int) (te_mul te_int (te_var 3 (R := RInt) (f := fun (s : Jar × Int) => l_at8)))) te_int) te_int)) te_int)) (fun l_mixed_here15 =>
  (ts_set (i := 5) (R := RInt) (ps_set sc_l_draw.nd rfl (Or.inl rfl) (te_mod (te_toint (bp_int T.z_int) (te_pow (te_add (te_add (te_mul (te_var 5 (R := RInt) (f := fun (s : Jar × Int) => l_mixed_here15)) (te_add (te_mul te_int (te_var 3 (R := RInt) (f := fun (s : Jar × Int) => l_at8))) te_int)) (te_mul (te_mul te_int (te_var 3 (R := RInt) (f := fun (s : Jar × Int) => l_at8))) (te_var 3 (R := RInt) (f := fun (s : Jar × Int) => l_at8)))) te_int) te_int)) te_int)) (fun l_mixed_here16 =>
  (ts_retB 0 (fun (s : Jar × Int) => s.1) (te_mod (te_toint (bp_int T.z_int) (te_fdiv (te_var 5 (R := RInt) (f := fun (s : Jar × Int) => l_mixed_here16)) te_int)) (te_var 1 (R := RInt) (f := fun (s : Jar × Int) => y.1))))))))))))))))) (by exact fun _ h => h)
def m_l_pick (p_l_some : (List Int)) (t : Jar) (Kf : Int → Jar → Prop) : Prop :=
  m_l_draw (p_l_some.length : Int) t fun r25 t26 => (∃ v24, pyAt p_l_some r25 = some v24 ∧ Kf v24 t26)
theorem ok_l_pick (T : Tx K mg) : FnOk P w K mg base CX0 2 T.a_l_pick T.d_l_pick ["_law_jar_here", "_law_some"] (spB OJar (acons (RLst RInt) anil) RInt (fun (y : (List Int) × Unit) t Kf => m_l_pick y.1 t Kf)) :=
  fnB T.F_l_pick sc_l_pick (fun _ => rfl) fun cdv A outer s H E hr j y Kf B => ts_use (
  (ts_retB 0 (fun (s : Jar) => s) (te_ixL (te_l (te_var 1 (R := (RLst RInt)) (f := fun (s : Jar) => y.1))) (te_callB 0 (fun (s : Jar) => s) (fun (s : Jar) t => t) (ok_l_draw T) (hr.mono (by decide)) T.g_l_draw T.F_l_draw.kp T.b_l_draw (ta_cons (te_len (bp_len T.z_len) lens_list (te_l (te_var 1 (R := (RLst RInt)) (f := fun (s : Jar) => y.1)))) ta_nil))))) (by exact fun _ h => h)
def m_l_letters (p_l_many : Int) (p_l_kinds : Int) (t : Jar) (Kf : (List Int) → Jar → Prop) : Prop :=
  (([] : List Int).length ≤ 1000000 ∧ ((-(2 ^ 62) ≤ p_l_many ∧ p_l_many < 2 ^ 62) ∧ mFor (rangeL 0 p_l_many) (fun (l_turn27 : Int) (s30 : Jar × (List Int)) Kn28 => m_l_draw p_l_kinds s30.1 fun r32 t33 => (fun (l_kind29 : Int) => mB (fun (K34 : Int → Jar × (List Int) → Prop) => m_l_draw (2 : Int) t33 fun r37 t38 => (if (decide (r37 = (0 : Int))) = true then K34 l_kind29 (t38, s30.2) else K34 (-l_kind29) (t38, s30.2))) (fun v35 s36 => (s36.2.length ≤ 1000000 ∧ Kn28 (s36.1, (s36.2 ++ [v35]))))) ((1 : Int) + r32)) (t, ([] : List Int)) (fun (s31 : Jar × (List Int)) =>
  Kf s31.2 s31.1)))
theorem ok_l_letters (T : Tx K mg) : FnOk P w K mg base CX0 2 T.a_l_letters T.d_l_letters ["_law_jar_here", "_law_many", "_law_kinds"] (spB OJar (acons RInt (acons RInt anil)) (RLst RInt) (fun (y : Int × Int × Unit) t Kf => m_l_letters y.1 y.2.1 t Kf)) :=
  fnB T.F_l_letters sc_l_letters (fun _ => rfl) fun cdv A outer s H E hr j y Kf B => ts_use (
  (ts_setO (i := 3) (Γ' := fun (s : Jar × (List Int)) => [.bo j (OJar s.1), .im (RInt y.1), .im (RInt y.2.1), .ow (OList RInt s.2), .any, .any]) (mk := fun (s : Jar) y => (s, y)) (ps_set sc_l_letters.nd rfl (Or.inl rfl) (tn_list (R := RInt) tl_nil)) (fun _ _ => rfl)
  (ts_for (Γh := fun s : Jar × (List Int) => [.bo j (OJar s.1), .im (RInt y.1), .im (RInt y.2.1), .ow (OList RInt s.2), .any, .any]) (fun (s : Jar × (List Int)) => (s.1, s.2)) (fun s => (.same (.same (.same (.same (.drop (.drop .nil))))))) (ti_range1 T.z_range (te_var 1 (R := RInt) (f := fun (s : Jar × (List Int)) => y.1))) (pg_name (i := 4) sc_l_letters.nd rfl (Or.inl rfl)) (tg_name 4)
  (fun q l_turn27 Kn28 => (ts_set (i := 5) (R := RInt) (ps_set sc_l_letters.nd rfl (Or.inl rfl) (te_add te_int (te_callB 0 (fun (s : Jar × (List Int)) => s.1) (fun (s : Jar × (List Int)) t => (t, s.2)) (ok_l_draw T) (hr.mono (by decide)) T.g_l_draw T.F_l_draw.kp T.b_l_draw (ta_cons (te_var 2 (R := RInt) (f := fun (s : Jar × (List Int)) => y.2.1)) ta_nil)))) (fun l_kind29 =>
  (ts_expr (te_append 3 (fun (s : Jar × (List Int)) => s.2) (fun (s : Jar × (List Int)) t => (s.1, t)) (R := RInt) (te_if (tt_c (cr_eq flat_int) (te_callB 0 (fun (s : Jar × (List Int)) => s.1) (fun (s : Jar × (List Int)) t => (t, s.2)) (ok_l_draw T) (hr.mono (by decide)) T.g_l_draw T.F_l_draw.kp T.b_l_draw (ta_cons te_int ta_nil)) te_int) (te_var 5 (R := RInt) (f := fun (s : Jar × (List Int)) => l_kind29)) (te_neg (te_var 5 (R := RInt) (f := fun (s : Jar × (List Int)) => l_kind29)))))
  (ts_end (Γj := fun s : Jar × (List Int) => [.bo j (OJar s.1), .im (RInt y.1), .im (RInt y.2.1), .ow (OList RInt s.2), .any, .any]) (fun (s : Jar × (List Int)) => (s.1, s.2)) (fun s => (.same (.same (.same (.same (.drop (.drop .nil))))))))))))
  (ts_freeze 3 (Γ' := fun (s : Jar × (List Int)) => [.bo j (OJar s.1), .im (RInt y.1), .im (RInt y.2.1), .im ((RLst RInt) s.2), .any, .any]) (get := fun (s : Jar × (List Int)) => s.2) (fun _ => rfl) (fun _ => rfl)
  (ts_retB 0 (fun (s : Jar × (List Int)) => s.1) (te_var 3 (R := (RLst RInt)) (f := fun (s : Jar × (List Int)) => s.2)))) PassesOwn.never))) (by exact fun _ h => h)
def m_l_drawn  (t : Jar) (Kf : (List Int) → Jar → Prop) : Prop :=
  m_l_draw (4 : Int) t fun r47 t48 => m_l_draw (3 : Int) t48 fun r49 t50 => (fun (l_kinds23 : Int) => (if (decide (r47 = (0 : Int))) = true then ([(0 : Int), (1 : Int), (2 : Int), (5 : Int), (9 : Int), (24 : Int)].length ≤ 1000000 ∧ m_l_pick [(0 : Int), (1 : Int), (2 : Int), (5 : Int), (9 : Int), (24 : Int)] t50 fun r53 t54 => m_l_letters r53 l_kinds23 t54 fun r51 t52 => Kf r51 t52) else
  m_l_draw (5 : Int) t50 fun r57 t58 => m_l_letters ((1 : Int) + r57) l_kinds23 t58 fun r55 t56 => m_l_draw (4 : Int) t56 fun r59 t60 => ((-(2 ^ 63) ≤ ((1 : Int) + r59) ∧ ((1 : Int) + r59) < 2 ^ 63 ∧ r55.length * ((1 : Int) + r59).toNat ≤ 1000000) ∧ (fun (l_letters_here39 : (List Int)) => mIf (decide (r47 = (1 : Int))) (fun (Kn42 : Jar × (List Int) → Prop) => m_l_draw (l_letters_here39.length : Int) t60 fun r61 t62 => (∃ v63, pyAt l_letters_here39 r61 = some v63 ∧ ([(-v63)].length ≤ 1000000 ∧ ((pyCut l_letters_here39 none (some r61)).length + [(-v63)].length ≤ 1000000 ∧ (((pyCut l_letters_here39 none (some r61)) ++ [(-v63)]).length + (pyCut l_letters_here39 (some (r61 + (1 : Int))) none).length ≤ 1000000 ∧ (fun (l_letters_here45 : (List Int)) => Kn42 (t62, l_letters_here45)) (((pyCut l_letters_here39 none (some r61)) ++ [(-v63)]) ++ (pyCut l_letters_here39 (some (r61 + (1 : Int))) none))))))) (fun (Kn43 : Jar × (List Int) → Prop) => Kn43 (t60, l_letters_here39)) (fun (s46 : Jar × (List Int)) =>
  Kf s46.2 s46.1)) (pyRep r55 ((1 : Int) + r59))))) ((1 : Int) + r49)
theorem ok_l_drawn (T : Tx K mg) : FnOk P w K mg base CX0 3 T.a_l_drawn T.d_l_drawn ["_law_jar_here"] (spB OJar anil (RLst RInt) (fun (y : Unit) t Kf => m_l_drawn  t Kf)) :=
  fnB T.F_l_drawn sc_l_drawn (fun _ => rfl) fun cdv A outer s H E hr j y Kf B => ts_use (
  (ts_par (i := 1) (j := 2) (Ra := RInt) (Rb := RInt) (ps_par rfl sc_l_drawn.nd rfl rfl (by decide) rfl rfl (pa_cons (te_callB 0 (fun (s : Jar) => s) (fun (s : Jar) t => t) (ok_l_draw T) (hr.mono (by decide)) T.g_l_draw T.F_l_draw.kp T.b_l_draw (ta_cons te_int ta_nil)) (pa_cons (te_add te_int (te_callB 0 (fun (s : Jar) => s) (fun (s : Jar) t => t) (ok_l_draw T) (hr.mono (by decide)) T.g_l_draw T.F_l_draw.kp T.b_l_draw (ta_cons te_int ta_nil))) pa_nil)) (by rfl)) (fun l_way22 l_kinds23 =>
  (ts_ifr (tt_c (cr_eq flat_int) (te_var 1 (R := RInt) (f := fun (s : Jar) => l_way22)) te_int)
  (ts_retB 0 (fun (s : Jar) => s) (te_callB 0 (fun (s : Jar) => s) (fun (s : Jar) t => t) (ok_l_letters T) (hr.mono (by decide)) T.g_l_letters T.F_l_letters.kp T.b_l_letters (ta_cons (te_callB 0 (fun (s : Jar) => s) (fun (s : Jar) t => t) (ok_l_pick T) (hr.mono (by decide)) T.g_l_pick T.F_l_pick.kp T.b_l_pick (ta_cons (te_lst (tn_list (R := RInt) (tl_cons te_int (tl_cons te_int (tl_cons te_int (tl_cons te_int (tl_cons te_int (tl_cons te_int tl_nil)))))))) ta_nil)) (ta_cons (te_var 2 (R := RInt) (f := fun (s : Jar) => l_kinds23)) ta_nil))))
  (ts_set (i := 3) (R := (RLst RInt)) (ps_set sc_l_drawn.nd rfl (Or.inl rfl) (te_lst (tn_rep (te_callB 0 (fun (s : Jar) => s) (fun (s : Jar) t => t) (ok_l_letters T) (hr.mono (by decide)) T.g_l_letters T.F_l_letters.kp T.b_l_letters (ta_cons (te_add te_int (te_callB 0 (fun (s : Jar) => s) (fun (s : Jar) t => t) (ok_l_draw T) (hr.mono (by decide)) T.g_l_draw T.F_l_draw.kp T.b_l_draw (ta_cons te_int ta_nil))) (ta_cons (te_var 2 (R := RInt) (f := fun (s : Jar) => l_kinds23)) ta_nil))) (te_add te_int (te_callB 0 (fun (s : Jar) => s) (fun (s : Jar) t => t) (ok_l_draw T) (hr.mono (by decide)) T.g_l_draw T.F_l_draw.kp T.b_l_draw (ta_cons te_int ta_nil)))))) (fun l_letters_here39 =>
  (ts_if (Γj := fun s : Jar × (List Int) => [.bo j (OJar s.1), .im (RInt l_way22), .im (RInt l_kinds23), .im ((RLst RInt) s.2), .any]) (tt_c (cr_eq flat_int) (te_var 1 (R := RInt) (f := fun (s : Jar) => l_way22)) te_int)
  (fun Kn42 => (ts_set (i := 4) (R := RInt) (ps_set sc_l_drawn.nd rfl (Or.inl rfl) (te_callB 0 (fun (s : Jar) => s) (fun (s : Jar) t => t) (ok_l_draw T) (hr.mono (by decide)) T.g_l_draw T.F_l_draw.kp T.b_l_draw (ta_cons (te_len (bp_len T.z_len) lens_list (te_l (te_var 3 (R := (RLst RInt)) (f := fun (s : Jar) => l_letters_here39)))) ta_nil))) (fun l_at44 =>
  (ts_set (i := 3) (R := (RLst RInt)) (ps_set sc_l_drawn.nd rfl (Or.inl rfl) (te_lst (tn_cat (te_lst (tn_cat (te_lst (tn_cut (te_l (te_var 3 (R := (RLst RInt)) (f := fun (s : Jar) => l_letters_here39))) to_none (to_some (te_var 4 (R := RInt) (f := fun (s : Jar) => l_at44))))) (te_lst (tn_list (R := RInt) (tl_cons (te_neg (te_ixL (te_l (te_var 3 (R := (RLst RInt)) (f := fun (s : Jar) => l_letters_here39))) (te_var 4 (R := RInt) (f := fun (s : Jar) => l_at44)))) tl_nil))))) (te_lst (tn_cut (te_l (te_var 3 (R := (RLst RInt)) (f := fun (s : Jar) => l_letters_here39))) (to_some (te_add (te_var 4 (R := RInt) (f := fun (s : Jar) => l_at44)) te_int)) to_none))))) (fun l_letters_here45 =>
  (ts_end (Γj := fun s : Jar × (List Int) => [.bo j (OJar s.1), .im (RInt l_way22), .im (RInt l_kinds23), .im ((RLst RInt) s.2), .any]) (fun (s : Jar) => (s, l_letters_here45)) (fun s => (.same (.same (.same (.same (.drop .nil))))))))))))
  (fun Kn43 => (ts_end (Γj := fun s : Jar × (List Int) => [.bo j (OJar s.1), .im (RInt l_way22), .im (RInt l_kinds23), .im ((RLst RInt) s.2), .any]) (fun (s : Jar) => (s, l_letters_here39)) (fun s => (.same (.same (.same (.same (.drop .nil))))))))
  (ts_retB 0 (fun (s : Jar × (List Int)) => s.1) (te_var 3 (R := (RLst RInt)) (f := fun (s : Jar × (List Int)) => s.2)))))))))) (by exact fun _ h => h)
def m_l_forms (p_l_letters_here : (List Int)) (Kf : (List (List Int)) → Prop) : Prop :=
  ([p_l_letters_here].length ≤ 1000000 ∧ ((-(2 ^ 62) ≤ ((p_l_letters_here.length : Int) - (1 : Int)) ∧ ((p_l_letters_here.length : Int) - (1 : Int)) < 2 ^ 62) ∧ mFor (rangeL 0 ((p_l_letters_here.length : Int) - (1 : Int))) (fun (l_turn67 : Int) (s69 : (List (List Int))) Kn68 => (∃ v71, pyAt s69 (-(1 : Int)) = some v71 ∧ (∃ v72, pyAt s69 (-(1 : Int)) = some v72 ∧ ((pyCut v71 (some (1 : Int)) none).length + (pyCut v72 none (some (1 : Int))).length ≤ 1000000 ∧ (s69.length ≤ 1000000 ∧ Kn68 (s69 ++ [((pyCut v71 (some (1 : Int)) none) ++ (pyCut v72 none (some (1 : Int))))])))))) [p_l_letters_here] (fun (s70 : (List (List Int))) =>
  Kf s70)))
theorem ok_l_forms (T : Tx K mg) : FnOk P w K mg base CX0 1 T.a_l_forms T.d_l_forms ["_law_letters_here"] (spP (acons (RLst RInt) anil) (RLst (RTup K RInt)) (fun (y : (List Int) × Unit) Kf => m_l_forms y.1 Kf)) :=
  fnP T.F_l_forms sc_l_forms (fun _ => rfl) fun cdv A outer s H E hr y Kf B => ts_use (
  (ts_setO (i := 1) (Γ' := fun (s : (List (List Int))) => [.im ((RLst RInt) y.1), .ow (OList (RTup K RInt) s), .any]) (mk := fun (s : Unit) y => y) (ps_set sc_l_forms.nd rfl (Or.inl rfl) (tn_list (R := (RTup K RInt)) (tl_cons (te_tuple_l (bp_tuple T.z_tuple) (te_l (te_var 0 (R := (RLst RInt)) (f := fun (s : Unit) => y.1)))) tl_nil))) (fun _ _ => rfl)
  (ts_for (Γh := fun s : (List (List Int)) => [.im ((RLst RInt) y.1), .ow (OList (RTup K RInt) s), .any]) (fun (s : (List (List Int))) => s) (fun s => (.same (.same (.drop .nil)))) (ti_range1 T.z_range (te_sub (te_len (bp_len T.z_len) lens_list (te_l (te_var 0 (R := (RLst RInt)) (f := fun (s : (List (List Int))) => y.1)))) te_int)) (pg_name (i := 2) sc_l_forms.nd rfl (Or.inl rfl)) (tg_name 2)
  (fun q l_turn67 Kn68 => (ts_expr (te_append 1 (fun (s : (List (List Int))) => s) (fun (s : (List (List Int))) t => t) (R := (RTup K RInt)) (te_catT (te_cutT (te_ownIx 1 (fun (s : (List (List Int))) => s) (R := (RTup K RInt)) (te_neg te_int)) (to_some te_int) to_none) (te_cutT (te_ownIx 1 (fun (s : (List (List Int))) => s) (R := (RTup K RInt)) (te_neg te_int)) to_none (to_some te_int))))
  (ts_end (Γj := fun s : (List (List Int)) => [.im ((RLst RInt) y.1), .ow (OList (RTup K RInt) s), .any]) (fun (s : (List (List Int))) => s) (fun s => (.same (.same (.drop .nil)))))))
  (ts_freeze 1 (Γ' := fun (s : (List (List Int))) => [.im ((RLst RInt) y.1), .im ((RLst (RTup K RInt)) s), .any]) (get := fun (s : (List (List Int))) => s) (fun _ => rfl) (fun _ => rfl)
  (ts_ret (te_var 1 (R := (RLst (RTup K RInt))) (f := fun (s : (List (List Int))) => s)))) PassesOwn.never))) (by exact fun _ h => h)
def m_l_mixed (p_l_some : (List Int)) (t : Jar) (Kf : (List Int) → Jar → Prop) : Prop :=
  ((-(2 ^ 62) ≤ (p_l_some.length : Int) ∧ (p_l_some.length : Int) < 2 ^ 62) ∧ mFor (rangeL 0 (p_l_some.length : Int)) (fun (l_turn74 : Int) (s76 : Jar × (List Int) × (List Int)) Kn75 => m_l_draw (s76.2.1.length : Int) s76.1 fun r79 t80 => (∃ v78, (0 ≤ r79 ∧ r79 < (s76.2.1.length : Int) ∧ r79 ≤ 1000000 ∧ s76.2.1[r79.toNat]? = some v78) ∧ (s76.2.2.length ≤ 1000000 ∧ Kn75 (t80, (s76.2.1.eraseIdx r79.toNat), (s76.2.2 ++ [v78]))))) (t, p_l_some, ([] : List Int)) (fun (s77 : Jar × (List Int) × (List Int)) =>
  Kf s77.2.2 s77.1))
theorem ok_l_mixed (T : Tx K mg) : FnOk P w K mg base CX0 2 T.a_l_mixed T.d_l_mixed ["_law_jar_here", "_law_some"] (spB OJar (acons (RLst RInt) anil) (RLst RInt) (fun (y : (List Int) × Unit) t Kf => m_l_mixed y.1 t Kf)) :=
  fnB T.F_l_mixed sc_l_mixed (fun _ => rfl) fun cdv A outer s H E hr j y Kf B => ts_use (
  (ts_parOE (i := 2) (j := 3) (Rb := RInt) (Γ' := fun (s : Jar × (List Int) × (List Int)) => [.bo j (OJar s.1), .im ((RLst RInt) y.1), .ow (OList RInt s.2.1), .ow (OList RInt s.2.2), .any]) (mk := fun (s : Jar) y => (s, y, [])) (ps_par rfl sc_l_mixed.nd rfl rfl (by decide) rfl rfl (pa_cons (tn_tolist (bp_list T.z_list) (te_l (te_var 1 (R := (RLst RInt)) (f := fun (s : Jar) => y.1)))) (pa_cons (pe_lst pa_nil) pa_nil)) (by rfl)) (fun _ _ => rfl) (by decide)
  (ts_for (Γh := fun s : Jar × (List Int) × (List Int) => [.bo j (OJar s.1), .im ((RLst RInt) y.1), .ow (OList RInt s.2.1), .ow (OList RInt s.2.2), .any]) (fun (s : Jar × (List Int) × (List Int)) => (s.1, s.2.1, s.2.2)) (fun s => (.same (.same (.same (.same (.drop .nil)))))) (ti_range1 T.z_range (te_ownLen 2 (fun (s : Jar × (List Int) × (List Int)) => s.2.1) (R := RInt) (bp_len T.z_len))) (pg_name (i := 4) sc_l_mixed.nd rfl (Or.inl rfl)) (tg_name 4)
  (fun q l_turn74 Kn75 => (ts_expr (te_append 3 (fun (s : Jar × (List Int) × (List Int)) => s.2.2) (fun (s : Jar × (List Int) × (List Int)) t => (s.1, s.2.1, t)) (R := RInt) (te_popAt 2 (fun (s : Jar × (List Int) × (List Int)) => s.2.1) (fun (s : Jar × (List Int) × (List Int)) t => (s.1, t, s.2.2)) (R := RInt) (te_callB 0 (fun (s : Jar × (List Int) × (List Int)) => s.1) (fun (s : Jar × (List Int) × (List Int)) t => (t, s.2.1, s.2.2)) (ok_l_draw T) (hr.mono (by decide)) T.g_l_draw T.F_l_draw.kp T.b_l_draw (ta_cons (te_ownLen 2 (fun (s : Jar × (List Int) × (List Int)) => s.2.1) (R := RInt) (bp_len T.z_len)) ta_nil))))
  (ts_end (Γj := fun s : Jar × (List Int) × (List Int) => [.bo j (OJar s.1), .im ((RLst RInt) y.1), .ow (OList RInt s.2.1), .ow (OList RInt s.2.2), .any]) (fun (s : Jar × (List Int) × (List Int)) => (s.1, s.2.1, s.2.2)) (fun s => (.same (.same (.same (.same (.drop .nil)))))))))
  (ts_freeze 3 (Γ' := fun (s : Jar × (List Int) × (List Int)) => [.bo j (OJar s.1), .im ((RLst RInt) y.1), .ow (OList RInt s.2.1), .im ((RLst RInt) s.2.2), .any]) (get := fun (s : Jar × (List Int) × (List Int)) => s.2.2) (fun _ => rfl) (fun _ => rfl)
  (ts_retB 0 (fun (s : Jar × (List Int) × (List Int)) => s.1) (te_var 3 (R := (RLst RInt)) (f := fun (s : Jar × (List Int) × (List Int)) => s.2.2)))) PassesOwn.never))) (by exact fun _ h => h)
def m_is_listed (p_value : (List Int)) (Kf : Bool → Prop) : Prop :=
  Kf true
theorem ok_is_listed (T : Tx K mg) : FnOk P w K mg base CX0 1 T.a_is_listed T.d_is_listed ["value"] (spP (acons (RLst RInt) anil) RBool (fun (y : (List Int) × Unit) Kf => m_is_listed y.1 Kf)) :=
  fnP T.F_is_listed sc_is_listed (fun _ => rfl) fun cdv A outer s H E hr y Kf B => ts_use (
  (ts_ret (te_isi2 (b := true) (bp_isi T.z_isinstance) ty_lst (te_var 0 (R := (RLst RInt)) (f := fun (s : Unit) => y.1)) (bg_list T.z_list) (bg_tuple T.z_tuple) (kit2 (r1 := true) (r2 := false) (by decide +kernel) (by decide +kernel))))) (by exact fun _ h => h)
def m_is_integer (p_value : Int) (Kf : Bool → Prop) : Prop :=
  mB (fun (K88 : Bool → Unit → Prop) => (if true = true then K88 (!false) () else K88 false ())) (fun b89 _ => Kf b89)
theorem ok_is_integer (T : Tx K mg) : FnOk P w K mg base CX0 1 T.a_is_integer T.d_is_integer ["value"] (spP (acons RInt anil) RBool (fun (y : Int × Unit) Kf => m_is_integer y.1 Kf)) :=
  fnP T.F_is_integer sc_is_integer (fun _ => rfl) fun cdv A outer s H E hr y Kf B => ts_use (
  (ts_ret (te_and (te_isi (b := true) (bp_isi T.z_isinstance) ty_int (te_var 0 (R := RInt) (f := fun (s : Unit) => y.1)) (bg_int T.z_int) (kit_ty (by decide +kernel))) (te_and1 (te_not (te_isi (b := false) (bp_isi T.z_isinstance) ty_int (te_var 0 (R := RInt) (f := fun (s : Unit) => y.1)) (bg_bool T.z_bool) (kit_ty (by decide +kernel)))))))) (by exact fun _ h => h)
def m_is_within (p_value : Int) (p_least : Int) (p_most : Int) (Kf : Bool → Prop) : Prop :=
  m_is_integer p_value fun r91 => (if (!r91) = true then Kf false else
  mB (fun (K92 : Bool → Unit → Prop) => mB (fun (K95 : Bool → Unit → Prop) => (if (false) = true then K95 true () else K95 (decide (p_least ≤ p_value)) ())) (fun b96 _ => (if b96 = true then mB (fun (K98 : Bool → Unit → Prop) => (if (false) = true then K98 true () else K98 (decide (p_value ≤ p_most)) ())) (fun b99 _ => K92 b99 ()) else K92 false ()))) (fun b93 _ => Kf b93))
theorem ok_is_within (T : Tx K mg) : FnOk P w K mg base CX0 2 T.a_is_within T.d_is_within ["value", "least", "most"] (spP (acons RInt (acons RInt (acons RInt anil))) RBool (fun (y : Int × Int × Int × Unit) Kf => m_is_within y.1 y.2.1 y.2.2.1 Kf)) :=
  fnP T.F_is_within sc_is_within (fun _ => rfl) fun cdv A outer s H E hr y Kf B => ts_use (
  (ts_ifr (tt_not (tt_val (te_call (ok_is_integer T) (hr.mono (by decide)) T.g_is_integer T.F_is_integer.kp T.b_is_integer (ta_cons (te_var 0 (R := RInt) (f := fun (s : Unit) => y.1)) ta_nil))))
  (ts_ret te_bl)
  (ts_ret (te_and (te_or (te_c (cr_isNo nn_int) (te_var 1 (R := RInt) (f := fun (s : Unit) => y.2.1)) te_non) (te_and1 (te_c cr_ge (te_var 0 (R := RInt) (f := fun (s : Unit) => y.1)) (te_var 1 (R := RInt) (f := fun (s : Unit) => y.2.1))))) (te_and1 (te_or (te_c (cr_isNo nn_int) (te_var 2 (R := RInt) (f := fun (s : Unit) => y.2.2.1)) te_non) (te_and1 (te_c cr_le (te_var 0 (R := RInt) (f := fun (s : Unit) => y.1)) (te_var 2 (R := RInt) (f := fun (s : Unit) => y.2.2.1)))))))))) (by exact fun _ h => h)
def m_is_letter (p_value : Int) (Kf : Bool → Prop) : Prop :=
  mB (fun (K101 : Bool → Unit → Prop) => m_is_within p_value (-(26 : Int)) (26 : Int) fun r104 => (if r104 = true then K101 (!decide (p_value = (0 : Int))) () else K101 false ())) (fun b102 _ => Kf b102)
theorem ok_is_letter (T : Tx K mg) : FnOk P w K mg base CX0 3 T.a_is_letter T.d_is_letter ["value"] (spP (acons RInt anil) RBool (fun (y : Int × Unit) Kf => m_is_letter y.1 Kf)) :=
  fnP T.F_is_letter sc_is_letter (fun _ => rfl) fun cdv A outer s H E hr y Kf B => ts_use (
  (ts_ret (te_and (te_call (ok_is_within T) (hr.mono (by decide)) T.g_is_within T.F_is_within.kp T.b_is_within (ta_cons (te_var 0 (R := RInt) (f := fun (s : Unit) => y.1)) (ta_cons (te_neg (te_globI T.c_LAST_KIND)) (ta_cons (te_globI T.c_LAST_KIND) ta_nil)))) (te_and1 (te_c (cr_ne flat_int) (te_var 0 (R := RInt) (f := fun (s : Unit) => y.1)) te_int))))) (by exact fun _ h => h)
def m_are_letters (p_value : (List Int)) (Kf : Bool → Prop) : Prop :=
  mB (fun (K106 : Bool → Unit → Prop) => m_is_listed p_value fun r109 => (if r109 = true then (p_value.length ≤ 1000000 ∧ mMap p_value (fun (x86 : Int) K105 => m_is_letter x86 fun r111 => K105 r111) fun ys110 => K106 (ys110.all id) ()) else K106 false ())) (fun b107 _ => Kf b107)
theorem ok_are_letters (T : Tx K mg) : FnOk P w K mg base CX0 4 T.a_are_letters T.d_are_letters ["value"] (spP (acons (RLst RInt) anil) RBool (fun (y : (List Int) × Unit) Kf => m_are_letters y.1 Kf)) :=
  fnP T.F_are_letters sc_are_letters (fun _ => rfl) fun cdv A outer s H E hr y Kf B => ts_use (
  (ts_ret (te_and (te_call (ok_is_listed T) (hr.mono (by decide)) T.g_is_listed T.F_is_listed.kp T.b_is_listed (ta_cons (te_var 0 (R := (RLst RInt)) (f := fun (s : Unit) => y.1)) ta_nil)) (te_and1 (te_all (bp_all T.z_all) (te_known (K := K) (tn_map sc_are_letters.nd (ti_list (K := K) (te_l (te_var 0 (R := (RLst RInt)) (f := fun (s : Unit) => y.1)))) (blkOk_by (own := [("each", 1)]) (N := ["value", "each"]) (sc := defScope s_are_letters) (by decide +kernel)) (fun _ _ _ _ _ => (pg_name (i := 1) sc_are_letters.nd rfl (Or.inl rfl))) (tg_name 1) (fun s87 x86 B' s H C cl fp => (te_call (ok_is_letter T) (hr.mono (by decide)) T.g_is_letter T.F_is_letter.kp T.b_is_letter (ta_cons (te_var 1 (R := RInt) (f := fun (s : Unit) => x86)) ta_nil)))))))))) (by exact fun _ h => h)
def m_need_few (p_many : Int) (Kf : Unit → Prop) : Prop :=
  (if (decide ((500 : Int) < p_many)) = true then False else
  Kf ())
theorem ok_need_few (T : Tx K mg) : FnOk P w K mg base CX0 1 T.a_need_few T.d_need_few ["many"] (spP (acons RInt anil) RNon (fun (y : Int × Unit) Kf => m_need_few y.1 Kf)) :=
  fnP T.F_need_few sc_need_few (fun _ => rfl) fun cdv A outer s H E hr y Kf B => ts_use (
  (ts_ifr (tt_c cr_gt (te_var 0 (R := RInt) (f := fun (s : Unit) => y.1)) (te_globI T.c_MOST_LETTERS))
  ts_never
  ts_fall)) (by exact fun _ h => h)
def m_are_short (p_letters : (List Int)) (Kf : Bool → Prop) : Prop :=
  ((List.zip p_letters (pyCut p_letters (some (1 : Int)) none)).length ≤ 1000000 ∧ mMap (List.zip p_letters (pyCut p_letters (some (1 : Int)) none)) (fun (x118 : (Int × Int)) K120 => K120 (!decide (x118.1 = (-x118.2)))) fun ys121 => Kf (ys121.all id))
theorem ok_are_short (T : Tx K mg) : FnOk P w K mg base CX0 1 T.a_are_short T.d_are_short ["letters"] (spP (acons (RTup K RInt) anil) RBool (fun (y : (List Int) × Unit) Kf => m_are_short y.1 Kf)) :=
  fnP T.F_are_short sc_are_short (fun _ => rfl) fun cdv A outer s H E hr y Kf B => ts_use (
  (ts_ret (te_all (bp_all T.z_all) (te_known (K := K) (tn_map sc_are_short.nd (ti_zipT (K := K) T.z_zip (te_var 0 (R := (RTup K RInt)) (f := fun (s : Unit) => y.1)) (te_cutT (te_var 0 (R := (RTup K RInt)) (f := fun (s : Unit) => y.1)) (to_some te_int) to_none)) (blkOk_by (own := [("one", 1), ("other", 2)]) (N := ["letters", "one", "other"]) (sc := defScope s_are_short) (by decide +kernel)) (fun _ _ _ _ _ => (pg_tup rfl (pgs_cons (pg_name (i := 1) sc_are_short.nd rfl (Or.inl rfl)) (pgs_cons (pg_name (i := 2) sc_are_short.nd rfl (Or.inl rfl)) pgs_nil)))) (tg_pair 1 2) (fun s119 x118 B' s H C cl fp => (te_c (cr_ne flat_int) (te_var 1 (R := RInt) (f := fun (s : Unit) => x118.1)) (te_neg (te_var 2 (R := RInt) (f := fun (s : Unit) => x118.2)))))))))) (by exact fun _ h => h)
def m_rounded_of (p_letters : (List Int)) (Kf : (List Int) → Prop) : Prop :=
  (fun (many123 : Int) => (fun (at124 : Int) => mWhile (fun (s129 : Int) K130 => mB (fun (K131 : Bool → Int → Prop) => (if (decide (s129 < ((many123 - (1 : Int)) - s129))) = true then (∃ v134, pyAt p_letters s129 = some v134 ∧ (∃ v135, pyAt p_letters ((many123 - (1 : Int)) - s129) = some v135 ∧ K131 (decide (v134 = (-v135))) s129)) else K131 false s129)) (fun b132 s133 => K130 b132 s133)) (fun (s127 : Int) Kn125 => (fun (at126 : Int) => Kn125 at126) (s127 + (1 : Int))) at124 (fun (s128 : Int) =>
  Kf (pyCut p_letters (some s128) (some (many123 - s128))))) (0 : Int)) (p_letters.length : Int)
theorem ok_rounded_of (T : Tx K mg) : FnOk P w K mg base CX0 1 T.a_rounded_of T.d_rounded_of ["letters"] (spP (acons (RTup K RInt) anil) (RTup K RInt) (fun (y : (List Int) × Unit) Kf => m_rounded_of y.1 Kf)) :=
  fnP T.F_rounded_of sc_rounded_of (fun _ => rfl) fun cdv A outer s H E hr y Kf B => ts_use (
  (ts_par (i := 1) (j := 2) (Ra := RInt) (Rb := RInt) (ps_par rfl sc_rounded_of.nd rfl rfl (by decide) rfl rfl (pa_cons (te_len (bp_len T.z_len) lens_tup (te_var 0 (R := (RTup K RInt)) (f := fun (s : Unit) => y.1))) (pa_cons te_int pa_nil)) (by rfl)) (fun many123 at124 =>
  (ts_while (Γh := fun s : Int => [.im ((RTup K RInt) y.1), .im (RInt many123), .im (RInt s)]) (fun (s : Unit) => at124) (fun s => (.same (.same (.same .nil)))) (tt_w (tw_and (tt_c cr_lt (te_var 2 (R := RInt) (f := fun (s : Int) => s)) (te_sub (te_sub (te_var 1 (R := RInt) (f := fun (s : Int) => many123)) te_int) (te_var 2 (R := RInt) (f := fun (s : Int) => s)))) (tw_and1 (tt_c (cr_eq flat_int) (te_ixT (te_var 0 (R := (RTup K RInt)) (f := fun (s : Int) => y.1)) (te_var 2 (R := RInt) (f := fun (s : Int) => s))) (te_neg (te_ixT (te_var 0 (R := (RTup K RInt)) (f := fun (s : Int) => y.1)) (te_sub (te_sub (te_var 1 (R := RInt) (f := fun (s : Int) => many123)) te_int) (te_var 2 (R := RInt) (f := fun (s : Int) => s)))))))))
  (fun Kn125 => (ts_set (i := 2) (R := RInt) (ps_set sc_rounded_of.nd rfl (Or.inl rfl) (te_add (te_var 2 (R := RInt) (f := fun (s : Int) => s)) te_int)) (fun at126 =>
  (ts_end (Γj := fun s : Int => [.im ((RTup K RInt) y.1), .im (RInt many123), .im (RInt s)]) (fun (s : Int) => at126) (fun s => (.same (.same (.same .nil))))))))
  (ts_ret (te_cutT (te_var 0 (R := (RTup K RInt)) (f := fun (s : Int) => y.1)) (to_some (te_var 2 (R := RInt) (f := fun (s : Int) => s))) (to_some (te_sub (te_var 1 (R := RInt) (f := fun (s : Int) => many123)) (te_var 2 (R := RInt) (f := fun (s : Int) => s)))))) PassesOwn.never)))) (by exact fun _ h => h)
structure D_Word where
  letters : (List Int)
  length : Int
  kinds : (List Int)
  is_short : Bool
  is_short_round : Bool
deriving DecidableEq
def fl_Word (K : PySem.W.Frag) (x : D_Word) : List (Str × Pd) := [("letters", (RTup K RInt) x.letters), ("length", RInt x.length), ("kinds", (RTup K RInt) x.kinds), ("is_short", RBool x.is_short), ("is_short_round", RBool x.is_short_round)]
def R_Word (T : Tx K mg) : D_Word → Pd := fun x => RIns T.C_Word (fl_Word K x)
theorem fd_Word_letters (T : Tx K mg) : FldR (R_Word T) T.C_Word "letters" (RTup K RInt) (fun x : D_Word => x.letters) := fldR (fl := fun x => fl_Word K x) (fun _ => rfl)
theorem fd_Word_length (T : Tx K mg) : FldR (R_Word T) T.C_Word "length" RInt (fun x : D_Word => x.length) := fldR (fl := fun x => fl_Word K x) (fun _ => rfl)
theorem fd_Word_kinds (T : Tx K mg) : FldR (R_Word T) T.C_Word "kinds" (RTup K RInt) (fun x : D_Word => x.kinds) := fldR (fl := fun x => fl_Word K x) (fun _ => rfl)
theorem fd_Word_is_short (T : Tx K mg) : FldR (R_Word T) T.C_Word "is_short" RBool (fun x : D_Word => x.is_short) := fldR (fl := fun x => fl_Word K x) (fun _ => rfl)
theorem fd_Word_is_short_round (T : Tx K mg) : FldR (R_Word T) T.C_Word "is_short_round" RBool (fun x : D_Word => x.is_short_round) := fldR (fl := fun x => fl_Word K x) (fun _ => rfl)
def m_Word___init__ (p_letters : (List Int)) (Kf : D_Word → Prop) : Prop :=
  m_are_letters p_letters fun r137 => (if (!r137) = true then False else
  m_need_few (p_letters.length : Int) fun r138 => (fun (length113 : Int) => (p_letters.length ≤ 4000 ∧ mMap p_letters (fun (x114 : Int) K116 => K116 (x114.natAbs : Int)) fun ys139 => ((sortU ys139).length < 64 ∧ (fun (kinds117 : (List Int)) => m_are_short p_letters fun r140 => mB (fun (K141 : Bool → Unit → Prop) => (if r140 = true then m_rounded_of p_letters fun r144 => K141 (decide (r144 = p_letters)) () else K141 false ())) (fun b142 _ => Kf (⟨p_letters, length113, kinds117, r140, b142⟩ : D_Word))) (sortU ys139)))) (p_letters.length : Int))
theorem ok_Word___init__ (T : Tx K mg) : FnOk P w K mg base CX0 5 T.a_Word___init__ T.d_Word___init__ ["self", "letters"] (spI T.C_Word (acons (RLst RInt) anil) (R_Word T) (fun (y : (List Int) × Unit) Kf => m_Word___init__ y.1 Kf)) :=
  fnI T.F_Word___init__ sc_Word___init__ (fun _ => rfl) fun cdv A outer s H E hr a y Kf B => ts_use (
  (ts_ifr (tt_not (tt_val (te_call (ok_are_letters T) (hr.mono (by decide)) T.g_are_letters T.F_are_letters.kp T.b_are_letters (ta_cons (te_var 1 (R := (RLst RInt)) (f := fun (s : Unit) => y.1)) ta_nil))))
  ts_never
  (ts_expr (te_call (ok_need_few T) (hr.mono (by decide)) T.g_need_few T.F_need_few.kp T.b_need_few (ta_cons (te_len (bp_len T.z_len) lens_list (te_l (te_var 1 (R := (RLst RInt)) (f := fun (s : Unit) => y.1)))) ta_nil))
  (ts_self (i := 0) (fl := fun (s : Unit) => []) (te_tuple_l (bp_tuple T.z_tuple) (te_l (te_var 1 (R := (RLst RInt)) (f := fun (s : Unit) => y.1)))) T.cls_Word T.na_Word_letters (fun letters112 =>
  (ts_self (i := 0) (fl := fun (s : Unit) => [("letters", (RTup K RInt) letters112)]) (te_len (bp_len T.z_len) lens_tup (te_self (a := a) (i := 0) (R := (RTup K RInt)) (fl := fun (s : Unit) => [("letters", (RTup K RInt) letters112)]) (f := fun (s : Unit) => letters112) T.cls_Word T.na_Word_letters (fun _ => rfl) (fun _ => rfl))) T.cls_Word T.na_Word_length (fun length113 =>
  (ts_self (i := 0) (fl := fun (s : Unit) => [("letters", (RTup K RInt) letters112), ("length", RInt length113)]) (te_tuple_l (bp_tuple T.z_tuple) (te_known (K := K) (tn_sortedSet (bp_sorted T.z_sorted) (te_setI sc_Word___init__.nd (ti_tup (K := K) (te_self (a := a) (i := 0) (R := (RTup K RInt)) (fl := fun (s : Unit) => [("letters", (RTup K RInt) letters112), ("length", RInt length113)]) (f := fun (s : Unit) => letters112) T.cls_Word T.na_Word_letters (fun _ => rfl) (fun _ => rfl))) (blkOk_by (own := [("letter", 2)]) (N := ["self", "letters", "letter"]) (sc := defScope s_Word___init__) (by decide +kernel)) (fun _ _ _ _ _ => (pg_name (i := 2) sc_Word___init__.nd rfl (Or.inl rfl))) (tg_name 2) (fun s115 x114 B' s H C cl fp => (te_abs (bp_abs T.z_abs) (te_var 2 (R := RInt) (f := fun (s : Unit) => x114)))))))) T.cls_Word T.na_Word_kinds (fun kinds117 =>
  (ts_self (i := 0) (fl := fun (s : Unit) => [("letters", (RTup K RInt) letters112), ("length", RInt length113), ("kinds", (RTup K RInt) kinds117)]) (te_call (ok_are_short T) (hr.mono (by decide)) T.g_are_short T.F_are_short.kp T.b_are_short (ta_cons (te_self (a := a) (i := 0) (R := (RTup K RInt)) (fl := fun (s : Unit) => [("letters", (RTup K RInt) letters112), ("length", RInt length113), ("kinds", (RTup K RInt) kinds117)]) (f := fun (s : Unit) => letters112) T.cls_Word T.na_Word_letters (fun _ => rfl) (fun _ => rfl)) ta_nil)) T.cls_Word T.na_Word_is_short (fun is_short122 =>
  (ts_self (i := 0) (fl := fun (s : Unit) => [("letters", (RTup K RInt) letters112), ("length", RInt length113), ("kinds", (RTup K RInt) kinds117), ("is_short", RBool is_short122)]) (te_and (te_self (a := a) (i := 0) (R := RBool) (fl := fun (s : Unit) => [("letters", (RTup K RInt) letters112), ("length", RInt length113), ("kinds", (RTup K RInt) kinds117), ("is_short", RBool is_short122)]) (f := fun (s : Unit) => is_short122) T.cls_Word T.na_Word_is_short (fun _ => rfl) (fun _ => rfl)) (te_and1 (te_c (cr_eqD (K := K) rfl hr.units (dat_tup dat_int)) (te_call (ok_rounded_of T) (hr.mono (by decide)) T.g_rounded_of T.F_rounded_of.kp T.b_rounded_of (ta_cons (te_self (a := a) (i := 0) (R := (RTup K RInt)) (fl := fun (s : Unit) => [("letters", (RTup K RInt) letters112), ("length", RInt length113), ("kinds", (RTup K RInt) kinds117), ("is_short", RBool is_short122)]) (f := fun (s : Unit) => letters112) T.cls_Word T.na_Word_letters (fun _ => rfl) (fun _ => rfl)) ta_nil)) (te_self (a := a) (i := 0) (R := (RTup K RInt)) (fl := fun (s : Unit) => [("letters", (RTup K RInt) letters112), ("length", RInt length113), ("kinds", (RTup K RInt) kinds117), ("is_short", RBool is_short122)]) (f := fun (s : Unit) => letters112) T.cls_Word T.na_Word_letters (fun _ => rfl) (fun _ => rfl))))) T.cls_Word T.na_Word_is_short_round (fun is_short_round136 =>
  (ts_selfEnd (i := 0) (fl := fun (s : Unit) => [("letters", (RTup K RInt) letters112), ("length", RInt length113), ("kinds", (RTup K RInt) kinds117), ("is_short", RBool is_short122), ("is_short_round", RBool is_short_round136)]) (flr := fun x => fl_Word K x) (fun (s : Unit) => (⟨letters112, length113, kinds117, is_short122, is_short_round136⟩ : D_Word)) (fun _ => rfl) (fun _ => rfl))) (hl := fun _ => ⟨rfl, by show 4 < 1000; decide⟩))) (hl := fun _ => ⟨rfl, by show 3 < 1000; decide⟩))) (hl := fun _ => ⟨rfl, by show 2 < 1000; decide⟩))) (hl := fun _ => ⟨rfl, by show 1 < 1000; decide⟩))) (hl := fun _ => ⟨rfl, by show 0 < 1000; decide⟩))))) (by exact fun _ h => h)
def m_need_word (p_value : D_Word) (p_part : Str) (Kf : Unit → Prop) : Prop :=
  (if (!true) = true then False else
  Kf ())
theorem ok_need_word (T : Tx K mg) : FnOk P w K mg base CX0 1 T.a_need_word T.d_need_word ["value", "part"] (spP (acons (R_Word T) (acons RStr anil)) RNon (fun (y : D_Word × Str × Unit) Kf => m_need_word y.1 y.2.1 Kf)) :=
  fnP T.F_need_word sc_need_word (fun _ => rfl) fun cdv A outer s H E hr y Kf B => ts_use (
  (ts_ifr (tt_not (tt_val (te_isi (b := true) (bp_isi T.z_isinstance) (ty_ins T.isc_Word) (te_var 0 (R := (R_Word T)) (f := fun (s : Unit) => y.1)) (pcl_own T.g_Word) T.isc_Word.me)))
  ts_never
  ts_fall)) (by exact fun _ h => h)
def m_turned_letters (p_letters : (List Int)) (p_by : Int) (Kf : (List Int) → Prop) : Prop :=
  ((pyCut p_letters (some p_by) none).length + (pyCut p_letters none (some p_by)).length ≤ 1000000 ∧ Kf ((pyCut p_letters (some p_by) none) ++ (pyCut p_letters none (some p_by))))
theorem ok_turned_letters (T : Tx K mg) : FnOk P w K mg base CX0 1 T.a_turned_letters T.d_turned_letters ["letters", "by"] (spP (acons (RTup K RInt) (acons RInt anil)) (RTup K RInt) (fun (y : (List Int) × Int × Unit) Kf => m_turned_letters y.1 y.2.1 Kf)) :=
  fnP T.F_turned_letters sc_turned_letters (fun _ => rfl) fun cdv A outer s H E hr y Kf B => ts_use (
  (ts_ret (te_catT (te_cutT (te_var 0 (R := (RTup K RInt)) (f := fun (s : Unit) => y.1)) (to_some (te_var 1 (R := RInt) (f := fun (s : Unit) => y.2.1))) to_none) (te_cutT (te_var 0 (R := (RTup K RInt)) (f := fun (s : Unit) => y.1)) to_none (to_some (te_var 1 (R := RInt) (f := fun (s : Unit) => y.2.1))))))) (by exact fun _ h => h)
def m_turn_to (p_one : D_Word) (p_other : D_Word) (Kf : (Option Int) → Prop) : Prop :=
  m_need_word p_one ("one" : Str) fun r159 => m_need_word p_other ("other" : Str) fun r160 => (if (!decide (p_one.length = p_other.length)) = true then Kf none else
  ((-(2 ^ 62) ≤ (max (1 : Int) p_one.length) ∧ (max (1 : Int) p_one.length) < 2 ^ 62) ∧ mFor (rangeL 0 (max (1 : Int) p_one.length)) (fun (by155 : Int) (_ : Unit) Kn156 => m_turned_letters p_one.letters by155 fun r161 => (if (decide (r161 = p_other.letters)) = true then Kf (some by155) else
  Kn156 ())) () (fun (_ : Unit) =>
  Kf none)))
theorem ok_turn_to (T : Tx K mg) : FnOk P w K mg base CX0 2 T.a_turn_to T.d_turn_to ["one", "other"] (spP (acons (R_Word T) (acons (R_Word T) anil)) (ROpt RInt) (fun (y : D_Word × D_Word × Unit) Kf => m_turn_to y.1 y.2.1 Kf)) :=
  fnP T.F_turn_to sc_turn_to (fun _ => rfl) fun cdv A outer s H E hr y Kf B => ts_use (
  (ts_expr (te_call (ok_need_word T) (hr.mono (by decide)) T.g_need_word T.F_need_word.kp T.b_need_word (ta_cons (te_var 0 (R := (R_Word T)) (f := fun (s : Unit) => y.1)) (ta_cons te_str ta_nil)))
  (ts_expr (te_call (ok_need_word T) (hr.mono (by decide)) T.g_need_word T.F_need_word.kp T.b_need_word (ta_cons (te_var 1 (R := (R_Word T)) (f := fun (s : Unit) => y.2.1)) (ta_cons te_str ta_nil)))
  (ts_ifr (tt_c (cr_ne flat_int) (te_fld (fd_Word_length T) T.cls_Word T.na_Word_length (te_var 0 (R := (R_Word T)) (f := fun (s : Unit) => y.1))) (te_fld (fd_Word_length T) T.cls_Word T.na_Word_length (te_var 1 (R := (R_Word T)) (f := fun (s : Unit) => y.2.1))))
  (ts_ret te_none)
  (ts_for (Γh := fun s : Unit => [.im ((R_Word T) y.1), .im ((R_Word T) y.2.1), .any]) (fun (s : Unit) => ()) (fun s => (.same (.same (.drop .nil)))) (ti_range1 T.z_range (te_max2 (bp_max T.z_max) te_int (te_fld (fd_Word_length T) T.cls_Word T.na_Word_length (te_var 0 (R := (R_Word T)) (f := fun (s : Unit) => y.1))))) (pg_name (i := 2) sc_turn_to.nd rfl (Or.inl rfl)) (tg_name 2)
  (fun q by155 Kn156 => (ts_ifr (tt_c (cr_eqD (K := K) rfl hr.units (dat_tup dat_int)) (te_call (ok_turned_letters T) (hr.mono (by decide)) T.g_turned_letters T.F_turned_letters.kp T.b_turned_letters (ta_cons (te_fld (fd_Word_letters T) T.cls_Word T.na_Word_letters (te_var 0 (R := (R_Word T)) (f := fun (s : Unit) => y.1))) (ta_cons (te_var 2 (R := RInt) (f := fun (s : Unit) => by155)) ta_nil))) (te_fld (fd_Word_letters T) T.cls_Word T.na_Word_letters (te_var 1 (R := (R_Word T)) (f := fun (s : Unit) => y.2.1))))
  (ts_ret (te_some (te_var 2 (R := RInt) (f := fun (s : Unit) => by155)) nn_int))
  (ts_end (Γj := fun s : Unit => [.im ((R_Word T) y.1), .im ((R_Word T) y.2.1), .any]) (fun (s : Unit) => ()) (fun s => (.same (.same (.drop .nil)))))))
  (ts_ret te_none) PassesOwn.never))))) (by exact fun _ h => h)
def m_is_within_v1 (p_value : Int) (p_least : Unit) (p_most : Unit) (Kf : Bool → Prop) : Prop :=
  m_is_integer p_value fun r163 => (if (!r163) = true then Kf false else
  mB (fun (K164 : Bool → Unit → Prop) => mB (fun (K167 : Bool → Unit → Prop) => (if (true) = true then K167 true () else False)) (fun b168 _ => (if b168 = true then mB (fun (K170 : Bool → Unit → Prop) => (if (true) = true then K170 true () else False)) (fun b171 _ => K164 b171 ()) else K164 false ()))) (fun b165 _ => Kf b165))
theorem ok_is_within_v1 (T : Tx K mg) : FnOk P w K mg base CX0 2 T.a_is_within T.d_is_within ["value", "least", "most"] (spP (acons RInt (acons RNon (acons RNon anil))) RBool (fun (y : Int × Unit × Unit × Unit) Kf => m_is_within_v1 y.1 y.2.1 y.2.2.1 Kf)) :=
  fnP T.F_is_within sc_is_within (fun _ => rfl) fun cdv A outer s H E hr y Kf B => ts_use (
  (ts_ifr (tt_not (tt_val (te_call (ok_is_integer T) (hr.mono (by decide)) T.g_is_integer T.F_is_integer.kp T.b_is_integer (ta_cons (te_var 0 (R := RInt) (f := fun (s : Unit) => y.1)) ta_nil))))
  (ts_ret te_bl)
  (ts_ret (te_and (te_or (te_c cr_isNN (te_var 1 (R := RNon) (f := fun (s : Unit) => y.2.1)) te_non) (te_and1 (te_never))) (te_and1 (te_or (te_c cr_isNN (te_var 2 (R := RNon) (f := fun (s : Unit) => y.2.2.1)) te_non) (te_and1 (te_never)))))))) (by exact fun _ h => h)
def m_need_number (p_value : Int) (p_part : Str) (p_least : Unit) (p_most : Unit) (Kf : Unit → Prop) : Prop :=
  m_is_within_v1 p_value p_least p_most fun r173 => (if (!r173) = true then False else
  Kf ())
theorem ok_need_number (T : Tx K mg) : FnOk P w K mg base CX0 3 T.a_need_number T.d_need_number ["value", "part", "least", "most"] (spP (acons RInt (acons RStr (acons RNon (acons RNon anil)))) RNon (fun (y : Int × Str × Unit × Unit × Unit) Kf => m_need_number y.1 y.2.1 y.2.2.1 y.2.2.2.1 Kf)) :=
  fnP T.F_need_number sc_need_number (fun _ => rfl) fun cdv A outer s H E hr y Kf B => ts_use (
  (ts_ifr (tt_not (tt_val (te_call (ok_is_within_v1 T) (hr.mono (by decide)) T.g_is_within T.F_is_within.kp T.b_is_within (ta_cons (te_var 0 (R := RInt) (f := fun (s : Unit) => y.1)) (ta_cons (te_var 2 (R := RNon) (f := fun (s : Unit) => y.2.2.1)) (ta_cons (te_var 3 (R := RNon) (f := fun (s : Unit) => y.2.2.2.1)) ta_nil))))))
  ts_never
  ts_fall)) (by exact fun _ h => h)
def m_is_listed_v1 (p_value : (List Int)) (Kf : Bool → Prop) : Prop :=
  Kf true
theorem ok_is_listed_v1 (T : Tx K mg) : FnOk P w K mg base CX0 1 T.a_is_listed T.d_is_listed ["value"] (spP (acons (RTup K RInt) anil) RBool (fun (y : (List Int) × Unit) Kf => m_is_listed_v1 y.1 Kf)) :=
  fnP T.F_is_listed sc_is_listed (fun _ => rfl) fun cdv A outer s H E hr y Kf B => ts_use (
  (ts_ret (te_isi2 (b := true) (bp_isi T.z_isinstance) ty_tup (te_var 0 (R := (RTup K RInt)) (f := fun (s : Unit) => y.1)) (bg_list T.z_list) (bg_tuple T.z_tuple) (kit2 (r1 := false) (r2 := true) (by decide +kernel) (by decide +kernel))))) (by exact fun _ h => h)
def m_are_letters_v1 (p_value : (List Int)) (Kf : Bool → Prop) : Prop :=
  mB (fun (K178 : Bool → Unit → Prop) => m_is_listed_v1 p_value fun r181 => (if r181 = true then (p_value.length ≤ 1000000 ∧ mMap p_value (fun (x175 : Int) K177 => m_is_letter x175 fun r183 => K177 r183) fun ys182 => K178 (ys182.all id) ()) else K178 false ())) (fun b179 _ => Kf b179)
theorem ok_are_letters_v1 (T : Tx K mg) : FnOk P w K mg base CX0 4 T.a_are_letters T.d_are_letters ["value"] (spP (acons (RTup K RInt) anil) RBool (fun (y : (List Int) × Unit) Kf => m_are_letters_v1 y.1 Kf)) :=
  fnP T.F_are_letters sc_are_letters (fun _ => rfl) fun cdv A outer s H E hr y Kf B => ts_use (
  (ts_ret (te_and (te_call (ok_is_listed_v1 T) (hr.mono (by decide)) T.g_is_listed T.F_is_listed.kp T.b_is_listed (ta_cons (te_var 0 (R := (RTup K RInt)) (f := fun (s : Unit) => y.1)) ta_nil)) (te_and1 (te_all (bp_all T.z_all) (te_known (K := K) (tn_map sc_are_letters.nd (ti_tup (K := K) (te_var 0 (R := (RTup K RInt)) (f := fun (s : Unit) => y.1))) (blkOk_by (own := [("each", 1)]) (N := ["value", "each"]) (sc := defScope s_are_letters) (by decide +kernel)) (fun _ _ _ _ _ => (pg_name (i := 1) sc_are_letters.nd rfl (Or.inl rfl))) (tg_name 1) (fun s176 x175 B' s H C cl fp => (te_call (ok_is_letter T) (hr.mono (by decide)) T.g_is_letter T.F_is_letter.kp T.b_is_letter (ta_cons (te_var 1 (R := RInt) (f := fun (s : Unit) => x175)) ta_nil)))))))))) (by exact fun _ h => h)
def m_Word___init___v1 (p_letters : (List Int)) (Kf : D_Word → Prop) : Prop :=
  m_are_letters_v1 p_letters fun r192 => (if (!r192) = true then False else
  m_need_few (p_letters.length : Int) fun r193 => (fun (length185 : Int) => (p_letters.length ≤ 4000 ∧ mMap p_letters (fun (x186 : Int) K188 => K188 (x186.natAbs : Int)) fun ys194 => ((sortU ys194).length < 64 ∧ (fun (kinds189 : (List Int)) => m_are_short p_letters fun r195 => mB (fun (K196 : Bool → Unit → Prop) => (if r195 = true then m_rounded_of p_letters fun r199 => K196 (decide (r199 = p_letters)) () else K196 false ())) (fun b197 _ => Kf (⟨p_letters, length185, kinds189, r195, b197⟩ : D_Word))) (sortU ys194)))) (p_letters.length : Int))
theorem ok_Word___init___v1 (T : Tx K mg) : FnOk P w K mg base CX0 5 T.a_Word___init__ T.d_Word___init__ ["self", "letters"] (spI T.C_Word (acons (RTup K RInt) anil) (R_Word T) (fun (y : (List Int) × Unit) Kf => m_Word___init___v1 y.1 Kf)) :=
  fnI T.F_Word___init__ sc_Word___init__ (fun _ => rfl) fun cdv A outer s H E hr a y Kf B => ts_use (
  (ts_ifr (tt_not (tt_val (te_call (ok_are_letters_v1 T) (hr.mono (by decide)) T.g_are_letters T.F_are_letters.kp T.b_are_letters (ta_cons (te_var 1 (R := (RTup K RInt)) (f := fun (s : Unit) => y.1)) ta_nil))))
  ts_never
  (ts_expr (te_call (ok_need_few T) (hr.mono (by decide)) T.g_need_few T.F_need_few.kp T.b_need_few (ta_cons (te_len (bp_len T.z_len) lens_tup (te_var 1 (R := (RTup K RInt)) (f := fun (s : Unit) => y.1))) ta_nil))
  (ts_self (i := 0) (fl := fun (s : Unit) => []) (te_tuple_t (bp_tuple T.z_tuple) (te_var 1 (R := (RTup K RInt)) (f := fun (s : Unit) => y.1))) T.cls_Word T.na_Word_letters (fun letters184 =>
  (ts_self (i := 0) (fl := fun (s : Unit) => [("letters", (RTup K RInt) letters184)]) (te_len (bp_len T.z_len) lens_tup (te_self (a := a) (i := 0) (R := (RTup K RInt)) (fl := fun (s : Unit) => [("letters", (RTup K RInt) letters184)]) (f := fun (s : Unit) => letters184) T.cls_Word T.na_Word_letters (fun _ => rfl) (fun _ => rfl))) T.cls_Word T.na_Word_length (fun length185 =>
  (ts_self (i := 0) (fl := fun (s : Unit) => [("letters", (RTup K RInt) letters184), ("length", RInt length185)]) (te_tuple_l (bp_tuple T.z_tuple) (te_known (K := K) (tn_sortedSet (bp_sorted T.z_sorted) (te_setI sc_Word___init__.nd (ti_tup (K := K) (te_self (a := a) (i := 0) (R := (RTup K RInt)) (fl := fun (s : Unit) => [("letters", (RTup K RInt) letters184), ("length", RInt length185)]) (f := fun (s : Unit) => letters184) T.cls_Word T.na_Word_letters (fun _ => rfl) (fun _ => rfl))) (blkOk_by (own := [("letter", 2)]) (N := ["self", "letters", "letter"]) (sc := defScope s_Word___init__) (by decide +kernel)) (fun _ _ _ _ _ => (pg_name (i := 2) sc_Word___init__.nd rfl (Or.inl rfl))) (tg_name 2) (fun s187 x186 B' s H C cl fp => (te_abs (bp_abs T.z_abs) (te_var 2 (R := RInt) (f := fun (s : Unit) => x186)))))))) T.cls_Word T.na_Word_kinds (fun kinds189 =>
  (ts_self (i := 0) (fl := fun (s : Unit) => [("letters", (RTup K RInt) letters184), ("length", RInt length185), ("kinds", (RTup K RInt) kinds189)]) (te_call (ok_are_short T) (hr.mono (by decide)) T.g_are_short T.F_are_short.kp T.b_are_short (ta_cons (te_self (a := a) (i := 0) (R := (RTup K RInt)) (fl := fun (s : Unit) => [("letters", (RTup K RInt) letters184), ("length", RInt length185), ("kinds", (RTup K RInt) kinds189)]) (f := fun (s : Unit) => letters184) T.cls_Word T.na_Word_letters (fun _ => rfl) (fun _ => rfl)) ta_nil)) T.cls_Word T.na_Word_is_short (fun is_short190 =>
  (ts_self (i := 0) (fl := fun (s : Unit) => [("letters", (RTup K RInt) letters184), ("length", RInt length185), ("kinds", (RTup K RInt) kinds189), ("is_short", RBool is_short190)]) (te_and (te_self (a := a) (i := 0) (R := RBool) (fl := fun (s : Unit) => [("letters", (RTup K RInt) letters184), ("length", RInt length185), ("kinds", (RTup K RInt) kinds189), ("is_short", RBool is_short190)]) (f := fun (s : Unit) => is_short190) T.cls_Word T.na_Word_is_short (fun _ => rfl) (fun _ => rfl)) (te_and1 (te_c (cr_eqD (K := K) rfl hr.units (dat_tup dat_int)) (te_call (ok_rounded_of T) (hr.mono (by decide)) T.g_rounded_of T.F_rounded_of.kp T.b_rounded_of (ta_cons (te_self (a := a) (i := 0) (R := (RTup K RInt)) (fl := fun (s : Unit) => [("letters", (RTup K RInt) letters184), ("length", RInt length185), ("kinds", (RTup K RInt) kinds189), ("is_short", RBool is_short190)]) (f := fun (s : Unit) => letters184) T.cls_Word T.na_Word_letters (fun _ => rfl) (fun _ => rfl)) ta_nil)) (te_self (a := a) (i := 0) (R := (RTup K RInt)) (fl := fun (s : Unit) => [("letters", (RTup K RInt) letters184), ("length", RInt length185), ("kinds", (RTup K RInt) kinds189), ("is_short", RBool is_short190)]) (f := fun (s : Unit) => letters184) T.cls_Word T.na_Word_letters (fun _ => rfl) (fun _ => rfl))))) T.cls_Word T.na_Word_is_short_round (fun is_short_round191 =>
  (ts_selfEnd (i := 0) (fl := fun (s : Unit) => [("letters", (RTup K RInt) letters184), ("length", RInt length185), ("kinds", (RTup K RInt) kinds189), ("is_short", RBool is_short190), ("is_short_round", RBool is_short_round191)]) (flr := fun x => fl_Word K x) (fun (s : Unit) => (⟨letters184, length185, kinds189, is_short190, is_short_round191⟩ : D_Word)) (fun _ => rfl) (fun _ => rfl))) (hl := fun _ => ⟨rfl, by show 4 < 1000; decide⟩))) (hl := fun _ => ⟨rfl, by show 3 < 1000; decide⟩))) (hl := fun _ => ⟨rfl, by show 2 < 1000; decide⟩))) (hl := fun _ => ⟨rfl, by show 1 < 1000; decide⟩))) (hl := fun _ => ⟨rfl, by show 0 < 1000; decide⟩))))) (by exact fun _ h => h)
def m_Word_turned (p_self : D_Word) (p_by : Int) (Kf : D_Word → Prop) : Prop :=
  m_need_number p_by ("by" : Str) () () fun r200 => (if (decide (p_self.length = (0 : Int))) = true then Kf p_self else
  (p_self.length ≠ 0 ∧ (fun (at174 : Int) => ((pyCut p_self.letters (some at174) none).length + (pyCut p_self.letters none (some at174)).length ≤ 1000000 ∧ m_Word___init___v1 ((pyCut p_self.letters (some at174) none) ++ (pyCut p_self.letters none (some at174))) fun w201 => Kf w201)) (p_by.fmod p_self.length)))
theorem ok_Word_turned (T : Tx K mg) : FnOk P w K mg base CX0 7 T.a_Word_turned T.d_Word_turned ["self", "by"] (spP (acons (R_Word T) (acons RInt anil)) (R_Word T) (fun (y : D_Word × Int × Unit) Kf => m_Word_turned y.1 y.2.1 Kf)) :=
  fnP T.F_Word_turned sc_Word_turned (fun _ => rfl) fun cdv A outer s H E hr y Kf B => ts_use (
  (ts_expr (te_call (ok_need_number T) (hr.mono (by decide)) T.g_need_number T.F_need_number.kp T.b_need_number (ta_cons (te_var 1 (R := RInt) (f := fun (s : Unit) => y.2.1)) (ta_cons te_str (ta_cons te_non (ta_cons te_non ta_nil)))))
  (ts_ifr (tt_c (cr_eq flat_int) (te_fld (fd_Word_length T) T.cls_Word T.na_Word_length (te_var 0 (R := (R_Word T)) (f := fun (s : Unit) => y.1))) te_int)
  (ts_ret (te_var 0 (R := (R_Word T)) (f := fun (s : Unit) => y.1)))
  (ts_set (i := 2) (R := RInt) (ps_set sc_Word_turned.nd rfl (Or.inl rfl) (te_mod (te_var 1 (R := RInt) (f := fun (s : Unit) => y.2.1)) (te_fld (fd_Word_length T) T.cls_Word T.na_Word_length (te_var 0 (R := (R_Word T)) (f := fun (s : Unit) => y.1))))) (fun at174 =>
  (ts_ret (te_make T.mk_Word (ok_Word___init___v1 T) (hr.mono (by decide)) T.g_Word T.b_Word___init__ (ta_cons (te_catT (te_cutT (te_fld (fd_Word_letters T) T.cls_Word T.na_Word_letters (te_var 0 (R := (R_Word T)) (f := fun (s : Unit) => y.1))) (to_some (te_var 2 (R := RInt) (f := fun (s : Unit) => at174))) to_none) (te_cutT (te_fld (fd_Word_letters T) T.cls_Word T.na_Word_letters (te_var 0 (R := (R_Word T)) (f := fun (s : Unit) => y.1))) to_none (to_some (te_var 2 (R := RInt) (f := fun (s : Unit) => at174))))) ta_nil)))))))) (by exact fun _ h => h)
def m_Word___eq__ (p_self : D_Word) (p_other : D_Word) (Kf : Bool → Prop) : Prop :=
  mB (fun (K202 : Bool → Unit → Prop) => (if true = true then K202 (decide (p_self.letters = p_other.letters)) () else K202 false ())) (fun b203 _ => Kf b203)
theorem ok_Word___eq__ (T : Tx K mg) : FnOk P w K mg base CX0 1 T.a_Word___eq__ T.d_Word___eq__ ["self", "other"] (spP (acons (R_Word T) (acons (R_Word T) anil)) RBool (fun (y : D_Word × D_Word × Unit) Kf => m_Word___eq__ y.1 y.2.1 Kf)) :=
  fnP T.F_Word___eq__ sc_Word___eq__ (fun _ => rfl) fun cdv A outer s H E hr y Kf B => ts_use (
  (ts_ret (te_and (te_isi (b := true) (bp_isi T.z_isinstance) (ty_ins T.isc_Word) (te_var 1 (R := (R_Word T)) (f := fun (s : Unit) => y.2.1)) (pcl_own T.g_Word) T.isc_Word.me) (te_and1 (te_c (cr_eqD (K := K) rfl hr.units (dat_tup dat_int)) (te_fld (fd_Word_letters T) T.cls_Word T.na_Word_letters (te_var 0 (R := (R_Word T)) (f := fun (s : Unit) => y.1))) (te_fld (fd_Word_letters T) T.cls_Word T.na_Word_letters (te_var 1 (R := (R_Word T)) (f := fun (s : Unit) => y.2.1)))))))) (by exact fun _ h => h)
def eqW (x y : D_Word) : Bool := decide (x.letters = y.letters)
theorem eqW_ok (x y : D_Word) (Kf : Bool → Prop) (h : Kf (eqW x y)) : m_Word___eq__ x y Kf := h

def m_l_pair_right (p_l_letters_here : (List Int)) (p_l_others : (List Int)) (Kf : Bool → Prop) : Prop :=
  m_Word___init__ p_l_letters_here fun w210 => m_Word___init__ p_l_others fun w211 => ([(w210, w211, p_l_letters_here, p_l_others, ()), (w211, w210, p_l_others, p_l_letters_here, ())].length ≤ 1000000 ∧ mFor [(w210, w211, p_l_letters_here, p_l_others, ()), (w211, w210, p_l_others, p_l_letters_here, ())] (fun (p147 : (D_Word × D_Word × (List Int) × (List Int) × Unit)) (_ : Unit) Kn148 => m_l_forms p147.2.2.1 fun r212 => ((enumL r212).length ≤ 1000000 ∧ mMapIf (enumL r212) (fun (x150 : (Int × (List Int))) K153 => K153 (decide (x150.2 = p147.2.2.2.1))) (fun (x150 : (Int × (List Int))) K152 => K152 x150.1) fun ys213 => m_turn_to p147.1 p147.2.1 fun r214 => (([] : List Int).length ≤ 1000000 ∧ mIf (decide (ys213 = ([] : List Int))) (fun (Kn205 : Unit → Prop) => (if (r214.isSome) = true then Kf false else
  Kn205 ())) (fun (Kn206 : Unit → Prop) => mB (fun (K215 : Bool → Unit → Prop) => (∃ v218, pyAt ys213 (0 : Int) = some v218 ∧ (if (!decide (r214 = (some v218))) = true then K215 true () else (if false = true then K215 true () else (∃ u220, r214 = some u220 ∧ m_Word_turned p147.1 u220 fun r219 => (if (!eqW r219 p147.2.1) = true then K215 true () else m_turn_to p147.1 p147.2.1 fun r221 => K215 (!decide (r221 = r214)) ())))))) (fun b216 _ => (if b216 = true then Kf false else
  Kn206 ()))) (fun (_ : Unit) =>
  Kn148 ())))) () (fun (_ : Unit) =>
  m_turn_to w210 w211 fun r222 => m_turn_to w211 w210 fun r223 => Kf (decide ((r222.isNone) = (r223.isNone)))))
theorem ok_l_pair_right (T : Tx K mg) : FnOk P w K mg base CX0 8 T.a_l_pair_right T.d_l_pair_right ["_law_letters_here", "_law_others"] (spP (acons (RLst RInt) (acons (RLst RInt) anil)) RBool (fun (y : (List Int) × (List Int) × Unit) Kf => m_l_pair_right y.1 y.2.1 Kf)) :=
  fnP T.F_l_pair_right sc_l_pair_right (fun _ => rfl) fun cdv A outer s H E hr y Kf B => ts_use (
  (ts_par (i := 2) (j := 3) (Ra := (R_Word T)) (Rb := (R_Word T)) (ps_par rfl sc_l_pair_right.nd rfl rfl (by decide) rfl rfl (pa_cons (te_make T.mk_Word (ok_Word___init__ T) (hr.mono (by decide)) T.g_Word T.b_Word___init__ (ta_cons (te_var 0 (R := (RLst RInt)) (f := fun (s : Unit) => y.1)) ta_nil)) (pa_cons (te_make T.mk_Word (ok_Word___init__ T) (hr.mono (by decide)) T.g_Word T.b_Word___init__ (ta_cons (te_var 1 (R := (RLst RInt)) (f := fun (s : Unit) => y.2.1)) ta_nil)) pa_nil)) (by rfl)) (fun l_one145 l_other146 =>
  (ts_for (Γh := fun s : Unit => [.im ((RLst RInt) y.1), .im ((RLst RInt) y.2.1), .im ((R_Word T) l_one145), .im ((R_Word T) l_other146), .any, .any, .any, .any, .any, .any, .any, .any, .any]) (fun (s : Unit) => ()) (fun s => (.same (.same (.same (.same (.drop (.drop (.drop (.drop (.drop (.drop (.drop (.drop (.drop .nil)))))))))))))) (ti_tup (K := K) (te_tuple (K := K) (R := (RTn K (acons (R_Word T) (acons (R_Word T) (acons (RLst RInt) (acons (RLst RInt) anil)))))) (tl_cons (te_tupN (K := K) (ta_cons (te_var 2 (R := (R_Word T)) (f := fun (s : Unit) => l_one145)) (ta_cons (te_var 3 (R := (R_Word T)) (f := fun (s : Unit) => l_other146)) (ta_cons (te_var 0 (R := (RLst RInt)) (f := fun (s : Unit) => y.1)) (ta_cons (te_var 1 (R := (RLst RInt)) (f := fun (s : Unit) => y.2.1)) ta_nil)))) (hn := fun _ => by show 4 ≤ 1000; decide)) (tl_cons (te_tupN (K := K) (ta_cons (te_var 3 (R := (R_Word T)) (f := fun (s : Unit) => l_other146)) (ta_cons (te_var 2 (R := (R_Word T)) (f := fun (s : Unit) => l_one145)) (ta_cons (te_var 1 (R := (RLst RInt)) (f := fun (s : Unit) => y.2.1)) (ta_cons (te_var 0 (R := (RLst RInt)) (f := fun (s : Unit) => y.1)) ta_nil)))) (hn := fun _ => by show 4 ≤ 1000; decide)) tl_nil)))) (pg_tup rfl (pgs_cons (pg_name (i := 4) sc_l_pair_right.nd rfl (Or.inl rfl)) (pgs_cons (pg_name (i := 5) sc_l_pair_right.nd rfl (Or.inl rfl)) (pgs_cons (pg_name (i := 6) sc_l_pair_right.nd rfl (Or.inl rfl)) (pgs_cons (pg_name (i := 7) sc_l_pair_right.nd rfl (Or.inr rfl)) pgs_nil))))) (tg_tup4 4 5 6 7)
  (fun q p147 Kn148 => (ts_set (i := 8) (R := (RLst (RTup K RInt))) (ps_set sc_l_pair_right.nd rfl (Or.inl rfl) (te_call (ok_l_forms T) (hr.mono (by decide)) T.g_l_forms T.F_l_forms.kp T.b_l_forms (ta_cons (te_var 6 (R := (RLst RInt)) (f := fun (s : Unit) => p147.2.2.1)) ta_nil))) (fun l_forms_here149 =>
  (ts_set (i := 9) (R := (RLst RInt)) (ps_compIf (i := 9) sc_l_pair_right.nd (ti_enum T.z_enumerate (te_l (te_var 8 (R := (RLst (RTup K RInt))) (f := fun (s : Unit) => l_forms_here149)))) (blkOk_by (own := [("_law_by", 11), ("_law_form", 12)]) (N := ["_law_letters_here", "_law_others", "_law_one", "_law_other", "_law_mine", "_law_its", "_law_first", "_law_second", "_law_forms_here", "_law_due", "_law_told", "_law_by", "_law_form"]) (sc := defScope s_l_pair_right) (by decide +kernel)) (fun _ _ _ _ _ => (pg_tup rfl (pgs_cons (pg_name (i := 11) sc_l_pair_right.nd rfl (Or.inl rfl)) (pgs_cons (pg_name (i := 12) sc_l_pair_right.nd rfl (Or.inl rfl)) pgs_nil)))) (tg_pair 11 12) (fun s151 x150 B' s H C cl fp => (tt_c (cr_eqD (K := K) rfl hr.units (dat_tup dat_int)) (te_var 12 (R := (RTup K RInt)) (f := fun (s : Unit) => x150.2)) (te_tuple_l (bp_tuple T.z_tuple) (te_l (te_var 7 (R := (RLst RInt)) (f := fun (s : Unit) => p147.2.2.2.1)))))) (fun s151 x150 B' s H C cl fp => (te_var 11 (R := RInt) (f := fun (s : Unit) => x150.1)))) (fun l_due154 =>
  (ts_set (i := 10) (R := (ROpt RInt)) (ps_set sc_l_pair_right.nd rfl (Or.inl rfl) (te_callK0 (idx := [1, 0]) (fun z => (z.2.1, z.1, ())) (ok_turn_to T) (hr.mono (by decide)) T.g_turn_to T.F_turn_to.kp (kbn_of (ps := ["one", "other"]) (ks := ["other", "one"]) T.F_turn_to 0 [1, 0] (fun _ _ _ _ _ _ us ws h1 h2 => match us, ws, h1, h2 with | [], [_, _], _, _ => rfl)) (tk_cons (te_var 5 (R := (R_Word T)) (f := fun (s : Unit) => p147.2.1)) (tk_cons (te_var 4 (R := (R_Word T)) (f := fun (s : Unit) => p147.1)) tk_nil)) (by exact fun _ z vs ws F h1 h2 => match vs, ws, h1, h2 with | [], [w0, w1], _, ⟨q0, q1, _⟩ => ⟨q1, q0, trivial⟩))) (fun l_told162 =>
  (ts_if (Γj := fun s : Unit => [.im ((RLst RInt) y.1), .im ((RLst RInt) y.2.1), .im ((R_Word T) l_one145), .im ((R_Word T) l_other146), .im ((R_Word T) p147.1), .im ((R_Word T) p147.2.1), .im ((RLst RInt) p147.2.2.1), .im ((RLst RInt) p147.2.2.2.1), .im ((RLst (RTup K RInt)) l_forms_here149), .im ((RLst RInt) l_due154), .im ((ROpt RInt) l_told162), .any, .any]) (tt_c (cr_eqD (K := K) rfl hr.units (dat_lst dat_int)) (te_var 9 (R := (RLst RInt)) (f := fun (s : Unit) => l_due154)) (te_lst (tn_list (R := RInt) tl_nil)))
  (fun Kn205 => (ts_ifr (tt_c cr_notN (te_var 10 (R := (ROpt RInt)) (f := fun (s : Unit) => l_told162)) te_non)
  (ts_ret te_bl)
  (ts_end (Γj := fun s : Unit => [.im ((RLst RInt) y.1), .im ((RLst RInt) y.2.1), .im ((R_Word T) l_one145), .im ((R_Word T) l_other146), .im ((R_Word T) p147.1), .im ((R_Word T) p147.2.1), .im ((RLst RInt) p147.2.2.1), .im ((RLst RInt) p147.2.2.2.1), .im ((RLst (RTup K RInt)) l_forms_here149), .im ((RLst RInt) l_due154), .im ((ROpt RInt) l_told162), .any, .any]) (fun (s : Unit) => ()) (fun s => (.same (.same (.same (.same (.same (.same (.same (.same (.same (.same (.same (.drop (.drop .nil)))))))))))))))))
  (fun Kn206 => (ts_ifr (tt_w (tw_or (tt_c (cr_ne flat_optI) (te_var 10 (R := (ROpt RInt)) (f := fun (s : Unit) => l_told162)) (te_some (te_ixL (te_l (te_var 9 (R := (RLst RInt)) (f := fun (s : Unit) => l_due154))) te_int) nn_int)) (tw_or (tt_val (te_isiB (b := false) (bp_isi T.z_isinstance) (tyb_opt ty_int (kit_ty (by decide +kernel)) (kit_ty (by decide +kernel))) (te_var 10 (R := (ROpt RInt)) (f := fun (s : Unit) => l_told162)) (bg_bool T.z_bool))) (tw_or (tt_c (cr_ownNe (C := T.C_Word) isI isI (ok_Word___eq__ T) (fun x y Kf h => eqW_ok x y Kf h) T.eq_Word T.eqf_Word T.ne_Word T.isc_Word.hm T.b_Word___eq__ (hr.mono (by decide))) (te_meth (mn := "turned") (insR (fun _ => rfl)) (te_var 4 (R := (R_Word T)) (f := fun (s : Unit) => p147.1)) T.cls_Word T.me_Word_turned (ok_Word_turned T) (hr.mono (by decide)) T.b_Word_turned (ta_cons (te_unopt (te_var 10 (R := (ROpt RInt)) (f := fun (s : Unit) => l_told162))) ta_nil)) (te_var 5 (R := (R_Word T)) (f := fun (s : Unit) => p147.2.1))) (tw_or1 (tt_c (cr_ne flat_optI) (te_call (ok_turn_to T) (hr.mono (by decide)) T.g_turn_to T.F_turn_to.kp T.b_turn_to (ta_cons (te_var 4 (R := (R_Word T)) (f := fun (s : Unit) => p147.1)) (ta_cons (te_var 5 (R := (R_Word T)) (f := fun (s : Unit) => p147.2.1)) ta_nil))) (te_var 10 (R := (ROpt RInt)) (f := fun (s : Unit) => l_told162))))))))
  (ts_ret te_bl)
  (ts_end (Γj := fun s : Unit => [.im ((RLst RInt) y.1), .im ((RLst RInt) y.2.1), .im ((R_Word T) l_one145), .im ((R_Word T) l_other146), .im ((R_Word T) p147.1), .im ((R_Word T) p147.2.1), .im ((RLst RInt) p147.2.2.1), .im ((RLst RInt) p147.2.2.2.1), .im ((RLst (RTup K RInt)) l_forms_here149), .im ((RLst RInt) l_due154), .im ((ROpt RInt) l_told162), .any, .any]) (fun (s : Unit) => ()) (fun s => (.same (.same (.same (.same (.same (.same (.same (.same (.same (.same (.same (.drop (.drop .nil)))))))))))))))))
  (ts_end (Γj := fun s : Unit => [.im ((RLst RInt) y.1), .im ((RLst RInt) y.2.1), .im ((R_Word T) l_one145), .im ((R_Word T) l_other146), .any, .any, .any, .any, .any, .any, .any, .any, .any]) (fun (s : Unit) => ()) (fun s => (.same (.same (.same (.same (.drop (.drop (.drop (.drop (.drop (.drop (.drop (.drop (.drop .nil)))))))))))))))))))))))
  (ts_ret (te_c (cr_eq flat_bool) (te_c cr_isN (te_call (ok_turn_to T) (hr.mono (by decide)) T.g_turn_to T.F_turn_to.kp T.b_turn_to (ta_cons (te_var 2 (R := (R_Word T)) (f := fun (s : Unit) => l_one145)) (ta_cons (te_var 3 (R := (R_Word T)) (f := fun (s : Unit) => l_other146)) ta_nil))) te_non) (te_c cr_isN (te_call (ok_turn_to T) (hr.mono (by decide)) T.g_turn_to T.F_turn_to.kp T.b_turn_to (ta_cons (te_var 3 (R := (R_Word T)) (f := fun (s : Unit) => l_other146)) (ta_cons (te_var 2 (R := (R_Word T)) (f := fun (s : Unit) => l_one145)) ta_nil))) te_non))) PassesOwn.never)))) (by exact fun _ h => h)
def m_least_turned (p_word : D_Word) (Kf : D_Word → Prop) : Prop :=
  m_need_word p_word ("word" : Str) fun r229 => (if (decide (p_word.length = (0 : Int))) = true then Kf p_word else
  ((-(2 ^ 62) ≤ p_word.length ∧ p_word.length < 2 ^ 62) ∧ ((rangeL 0 p_word.length).length ≤ 1000000 ∧ mMap (rangeL 0 p_word.length) (fun (x226 : Int) K228 => m_turned_letters p_word.letters x226 fun r233 => K228 r233) fun ys232 => (∃ v231, leastD datT ys232 = some v231 ∧ m_Word___init___v1 v231 fun w230 => Kf w230))))
theorem ok_least_turned (T : Tx K mg) : FnOk P w K mg base CX0 7 T.a_least_turned T.d_least_turned ["word"] (spP (acons (R_Word T) anil) (R_Word T) (fun (y : D_Word × Unit) Kf => m_least_turned y.1 Kf)) :=
  fnP T.F_least_turned sc_least_turned (fun _ => rfl) fun cdv A outer s H E hr y Kf B => ts_use (
  (ts_expr (te_call (ok_need_word T) (hr.mono (by decide)) T.g_need_word T.F_need_word.kp T.b_need_word (ta_cons (te_var 0 (R := (R_Word T)) (f := fun (s : Unit) => y.1)) (ta_cons te_str ta_nil)))
  (ts_ifr (tt_c (cr_eq flat_int) (te_fld (fd_Word_length T) T.cls_Word T.na_Word_length (te_var 0 (R := (R_Word T)) (f := fun (s : Unit) => y.1))) te_int)
  (ts_ret (te_var 0 (R := (R_Word T)) (f := fun (s : Unit) => y.1)))
  (ts_ret (te_make T.mk_Word (ok_Word___init___v1 T) (hr.mono (by decide)) T.g_Word T.b_Word___init__ (ta_cons (te_minD (d := datT) (bp_min T.z_min) (te_known (K := K) (tn_map sc_least_turned.nd (ti_range1 T.z_range (te_fld (fd_Word_length T) T.cls_Word T.na_Word_length (te_var 0 (R := (R_Word T)) (f := fun (s : Unit) => y.1)))) (blkOk_by (own := [("by", 1)]) (N := ["word", "by"]) (sc := defScope s_least_turned) (by decide +kernel)) (fun _ _ _ _ _ => (pg_name (i := 1) sc_least_turned.nd rfl (Or.inl rfl))) (tg_name 1) (fun s227 x226 B' s H C cl fp => (te_call (ok_turned_letters T) (hr.mono (by decide)) T.g_turned_letters T.F_turned_letters.kp T.b_turned_letters (ta_cons (te_fld (fd_Word_letters T) T.cls_Word T.na_Word_letters (te_var 0 (R := (R_Word T)) (f := fun (s : Unit) => y.1))) (ta_cons (te_var 1 (R := RInt) (f := fun (s : Unit) => x226)) ta_nil)))))) (dat_tup dat_int) datT_al datT_nn (units65 hr)) ta_nil)))))) (by exact fun _ h => h)
def m_l_least_right (p_l_letters_here : (List Int)) (t : Jar) (Kf : Bool → Jar → Prop) : Prop :=
  m_Word___init__ p_l_letters_here fun w240 => m_l_forms p_l_letters_here fun r242 => (∃ v241, leastD datT r242 = some v241 ∧ m_least_turned w240 fun r243 => mB (fun (K244 : Bool → Jar → Prop) => (if (!true) = true then K244 true t else (if (!decide (r243.letters = v241)) = true then K244 true t else m_least_turned r243 fun r247 => (if (!eqW r247 r243) = true then K244 true t else m_turn_to w240 r243 fun r248 => K244 (r248.isNone) t)))) (fun b245 s246 => (if b245 = true then Kf false s246 else
  ((-(2 ^ 62) ≤ (3 : Int) ∧ (3 : Int) < 2 ^ 62) ∧ mFor (rangeL 0 (3 : Int)) (fun (l_turn235 : Int) (s238 : Jar) Kn236 => m_l_draw (61 : Int) s238 fun r249 t250 => (fun (l_by237 : Int) => mB (fun (K251 : Bool → Jar → Prop) => m_Word_turned w240 l_by237 fun r255 => m_least_turned r255 fun r254 => (if (!eqW r254 r243) = true then K251 true t250 else m_Word_turned w240 l_by237 fun r257 => m_turn_to w240 r257 fun r256 => K251 (r256.isNone) t250)) (fun b252 s253 => (if b252 = true then Kf false s253 else
  Kn236 s253))) (r249 - (30 : Int))) s246 (fun (s239 : Jar) =>
  Kf (decide (w240.letters = p_l_letters_here)) s239)))))
theorem ok_l_least_right (T : Tx K mg) : FnOk P w K mg base CX0 8 T.a_l_least_right T.d_l_least_right ["_law_jar_here", "_law_letters_here"] (spB OJar (acons (RLst RInt) anil) RBool (fun (y : (List Int) × Unit) t Kf => m_l_least_right y.1 t Kf)) :=
  fnB T.F_l_least_right sc_l_least_right (fun _ => rfl) fun cdv A outer s H E hr j y Kf B => ts_use (
  (ts_par (i := 2) (j := 3) (Ra := (R_Word T)) (Rb := (RTup K RInt)) (ps_par rfl sc_l_least_right.nd rfl rfl (by decide) rfl rfl (pa_cons (te_make T.mk_Word (ok_Word___init__ T) (hr.mono (by decide)) T.g_Word T.b_Word___init__ (ta_cons (te_var 1 (R := (RLst RInt)) (f := fun (s : Jar) => y.1)) ta_nil)) (pa_cons (te_minD (d := datT) (bp_min T.z_min) (te_l (te_call (ok_l_forms T) (hr.mono (by decide)) T.g_l_forms T.F_l_forms.kp T.b_l_forms (ta_cons (te_var 1 (R := (RLst RInt)) (f := fun (s : Jar) => y.1)) ta_nil))) (dat_tup dat_int) datT_al datT_nn (units65 hr)) pa_nil)) (by rfl)) (fun l_word224 l_least225 =>
  (ts_set (i := 4) (R := (R_Word T)) (ps_set sc_l_least_right.nd rfl (Or.inl rfl) (te_callK0 (idx := [0]) (fun z => (z.1, ())) (ok_least_turned T) (hr.mono (by decide)) T.g_least_turned T.F_least_turned.kp (kbn_of (ps := ["word"]) (ks := ["word"]) T.F_least_turned 0 [0] (fun _ _ _ _ _ _ us ws h1 h2 => match us, ws, h1, h2 with | [], [_], _, _ => rfl)) (tk_cons (te_var 2 (R := (R_Word T)) (f := fun (s : Jar) => l_word224)) tk_nil) (by exact fun _ z vs ws F h1 h2 => match vs, ws, h1, h2 with | [], [w0], _, ⟨q0, _⟩ => ⟨q0, trivial⟩))) (fun l_told234 =>
  (ts_ifr (tt_w (tw_or (tt_not (tt_val (te_isi (b := true) (bp_isi T.z_isinstance) (ty_ins T.isc_Word) (te_var 4 (R := (R_Word T)) (f := fun (s : Jar) => l_told234)) (pcl_own T.g_Word) T.isc_Word.me))) (tw_or (tt_c (cr_neD (K := K) rfl hr.units (dat_tup dat_int)) (te_fld (fd_Word_letters T) T.cls_Word T.na_Word_letters (te_var 4 (R := (R_Word T)) (f := fun (s : Jar) => l_told234))) (te_var 3 (R := (RTup K RInt)) (f := fun (s : Jar) => l_least225))) (tw_or (tt_c (cr_ownNe (C := T.C_Word) isI isI (ok_Word___eq__ T) (fun x y Kf h => eqW_ok x y Kf h) T.eq_Word T.eqf_Word T.ne_Word T.isc_Word.hm T.b_Word___eq__ (hr.mono (by decide))) (te_call (ok_least_turned T) (hr.mono (by decide)) T.g_least_turned T.F_least_turned.kp T.b_least_turned (ta_cons (te_var 4 (R := (R_Word T)) (f := fun (s : Jar) => l_told234)) ta_nil)) (te_var 4 (R := (R_Word T)) (f := fun (s : Jar) => l_told234))) (tw_or1 (tt_c cr_isN (te_call (ok_turn_to T) (hr.mono (by decide)) T.g_turn_to T.F_turn_to.kp T.b_turn_to (ta_cons (te_var 2 (R := (R_Word T)) (f := fun (s : Jar) => l_word224)) (ta_cons (te_var 4 (R := (R_Word T)) (f := fun (s : Jar) => l_told234)) ta_nil))) te_non))))))
  (ts_retB 0 (fun (s : Jar) => s) te_bl)
  (ts_for (Γh := fun s : Jar => [.bo j (OJar s), .im ((RLst RInt) y.1), .im ((R_Word T) l_word224), .im ((RTup K RInt) l_least225), .im ((R_Word T) l_told234), .any, .any]) (fun (s : Jar) => s) (fun s => (.same (.same (.same (.same (.same (.drop (.drop .nil)))))))) (ti_range1 T.z_range te_int) (pg_name (i := 5) sc_l_least_right.nd rfl (Or.inl rfl)) (tg_name 5)
  (fun q l_turn235 Kn236 => (ts_set (i := 6) (R := RInt) (ps_set sc_l_least_right.nd rfl (Or.inl rfl) (te_sub (te_callB 0 (fun (s : Jar) => s) (fun (s : Jar) t => t) (ok_l_draw T) (hr.mono (by decide)) T.g_l_draw T.F_l_draw.kp T.b_l_draw (ta_cons te_int ta_nil)) te_int)) (fun l_by237 =>
  (ts_ifr (tt_w (tw_or (tt_c (cr_ownNe (C := T.C_Word) isI isI (ok_Word___eq__ T) (fun x y Kf h => eqW_ok x y Kf h) T.eq_Word T.eqf_Word T.ne_Word T.isc_Word.hm T.b_Word___eq__ (hr.mono (by decide))) (te_call (ok_least_turned T) (hr.mono (by decide)) T.g_least_turned T.F_least_turned.kp T.b_least_turned (ta_cons (te_meth (mn := "turned") (insR (fun _ => rfl)) (te_var 2 (R := (R_Word T)) (f := fun (s : Jar) => l_word224)) T.cls_Word T.me_Word_turned (ok_Word_turned T) (hr.mono (by decide)) T.b_Word_turned (ta_cons (te_var 6 (R := RInt) (f := fun (s : Jar) => l_by237)) ta_nil)) ta_nil)) (te_var 4 (R := (R_Word T)) (f := fun (s : Jar) => l_told234))) (tw_or1 (tt_c cr_isN (te_call (ok_turn_to T) (hr.mono (by decide)) T.g_turn_to T.F_turn_to.kp T.b_turn_to (ta_cons (te_var 2 (R := (R_Word T)) (f := fun (s : Jar) => l_word224)) (ta_cons (te_meth (mn := "turned") (insR (fun _ => rfl)) (te_var 2 (R := (R_Word T)) (f := fun (s : Jar) => l_word224)) T.cls_Word T.me_Word_turned (ok_Word_turned T) (hr.mono (by decide)) T.b_Word_turned (ta_cons (te_var 6 (R := RInt) (f := fun (s : Jar) => l_by237)) ta_nil)) ta_nil))) te_non))))
  (ts_retB 0 (fun (s : Jar) => s) te_bl)
  (ts_end (Γj := fun s : Jar => [.bo j (OJar s), .im ((RLst RInt) y.1), .im ((R_Word T) l_word224), .im ((RTup K RInt) l_least225), .im ((R_Word T) l_told234), .any, .any]) (fun (s : Jar) => s) (fun s => (.same (.same (.same (.same (.same (.drop (.drop .nil)))))))))))))
  (ts_retB 0 (fun (s : Jar) => s) (te_c (cr_eqD (K := K) rfl hr.units (dat_tup dat_int)) (te_fld (fd_Word_letters T) T.cls_Word T.na_Word_letters (te_var 2 (R := (R_Word T)) (f := fun (s : Jar) => l_word224))) (te_tuple_l (bp_tuple T.z_tuple) (te_l (te_var 1 (R := (RLst RInt)) (f := fun (s : Jar) => y.1)))))) PassesOwn.never))))))) (by exact fun _ h => h)
def m_Word_then (p_self : D_Word) (p_other : D_Word) (Kf : D_Word → Prop) : Prop :=
  m_need_word p_other ("other" : Str) fun r260 => (p_self.letters.length + p_other.letters.length ≤ 1000000 ∧ m_Word___init___v1 (p_self.letters ++ p_other.letters) fun w261 => Kf w261)
theorem ok_Word_then (T : Tx K mg) : FnOk P w K mg base CX0 7 T.a_Word_then T.d_Word_then ["self", "other"] (spP (acons (R_Word T) (acons (R_Word T) anil)) (R_Word T) (fun (y : D_Word × D_Word × Unit) Kf => m_Word_then y.1 y.2.1 Kf)) :=
  fnP T.F_Word_then sc_Word_then (fun _ => rfl) fun cdv A outer s H E hr y Kf B => ts_use (
  (ts_expr (te_call (ok_need_word T) (hr.mono (by decide)) T.g_need_word T.F_need_word.kp T.b_need_word (ta_cons (te_var 1 (R := (R_Word T)) (f := fun (s : Unit) => y.2.1)) (ta_cons te_str ta_nil)))
  (ts_ret (te_make T.mk_Word (ok_Word___init___v1 T) (hr.mono (by decide)) T.g_Word T.b_Word___init__ (ta_cons (te_catT (te_fld (fd_Word_letters T) T.cls_Word T.na_Word_letters (te_var 0 (R := (R_Word T)) (f := fun (s : Unit) => y.1))) (te_fld (fd_Word_letters T) T.cls_Word T.na_Word_letters (te_var 1 (R := (R_Word T)) (f := fun (s : Unit) => y.2.1)))) ta_nil))))) (by exact fun _ h => h)
def m_contrary_of (p_letters : (List Int)) (Kf : (List Int) → Prop) : Prop :=
  (p_letters.reverse.length ≤ 1000000 ∧ mMap p_letters.reverse (fun (x262 : Int) K264 => K264 (-x262)) fun ys265 => Kf ys265)
theorem ok_contrary_of (T : Tx K mg) : FnOk P w K mg base CX0 1 T.a_contrary_of T.d_contrary_of ["letters"] (spP (acons (RTup K RInt) anil) (RTup K RInt) (fun (y : (List Int) × Unit) Kf => m_contrary_of y.1 Kf)) :=
  fnP T.F_contrary_of sc_contrary_of (fun _ => rfl) fun cdv A outer s H E hr y Kf B => ts_use (
  (ts_ret (te_tuple_l (bp_tuple T.z_tuple) (te_known (K := K) (tn_map sc_contrary_of.nd (ti_tup (K := K) (te_revT (te_var 0 (R := (RTup K RInt)) (f := fun (s : Unit) => y.1)))) (blkOk_by (own := [("letter", 1)]) (N := ["letters", "letter"]) (sc := defScope s_contrary_of) (by decide +kernel)) (fun _ _ _ _ _ => (pg_name (i := 1) sc_contrary_of.nd rfl (Or.inl rfl))) (tg_name 1) (fun s263 x262 B' s H C cl fp => (te_neg (te_var 1 (R := RInt) (f := fun (s : Unit) => x262))))))))) (by exact fun _ h => h)
def m_Word_contrary (p_self : D_Word) (Kf : D_Word → Prop) : Prop :=
  m_contrary_of p_self.letters fun r267 => m_Word___init___v1 r267 fun w266 => Kf w266
theorem ok_Word_contrary (T : Tx K mg) : FnOk P w K mg base CX0 7 T.a_Word_contrary T.d_Word_contrary ["self"] (spP (acons (R_Word T) anil) (R_Word T) (fun (y : D_Word × Unit) Kf => m_Word_contrary y.1 Kf)) :=
  fnP T.F_Word_contrary sc_Word_contrary (fun _ => rfl) fun cdv A outer s H E hr y Kf B => ts_use (
  (ts_ret (te_make T.mk_Word (ok_Word___init___v1 T) (hr.mono (by decide)) T.g_Word T.b_Word___init__ (ta_cons (te_call (ok_contrary_of T) (hr.mono (by decide)) T.g_contrary_of T.F_contrary_of.kp T.b_contrary_of (ta_cons (te_fld (fd_Word_letters T) T.cls_Word T.na_Word_letters (te_var 0 (R := (R_Word T)) (f := fun (s : Unit) => y.1))) ta_nil)) ta_nil)))) (by exact fun _ h => h)
def m_shortened_of (p_letters : (List Int)) (Kf : (List Int) → Prop) : Prop :=
  (([] : List Int).length ≤ 1000000 ∧ mFor p_letters (fun (letter268 : Int) (s273 : (List Int)) Kn269 => mB (fun (K275 : Bool → (List Int) → Prop) => (if (!s273.isEmpty) = true then (∃ v278, pyAt s273 (-(1 : Int)) = some v278 ∧ K275 (decide (v278 = (-letter268))) s273) else K275 false s273)) (fun b276 s277 => mIf b276 (fun (Kn270 : (List Int) → Prop) => (∃ v279, s277[s277.length - 1]? = some v279 ∧ Kn270 s277.dropLast)) (fun (Kn271 : (List Int) → Prop) => (s277.length ≤ 1000000 ∧ Kn271 (s277 ++ [letter268]))) (fun (s272 : (List Int)) =>
  Kn269 s272))) ([] : List Int) (fun (s274 : (List Int)) =>
  Kf s274))
theorem ok_shortened_of (T : Tx K mg) : FnOk P w K mg base CX0 1 T.a_shortened_of T.d_shortened_of ["letters"] (spP (acons (RTup K RInt) anil) (RTup K RInt) (fun (y : (List Int) × Unit) Kf => m_shortened_of y.1 Kf)) :=
  fnP T.F_shortened_of sc_shortened_of (fun _ => rfl) fun cdv A outer s H E hr y Kf B => ts_use (
  (ts_setO (i := 1) (Γ' := fun (s : (List Int)) => [.im ((RTup K RInt) y.1), .ow (OList RInt s), .any]) (mk := fun (s : Unit) y => y) (ps_set sc_shortened_of.nd rfl (Or.inl rfl) (tn_list (R := RInt) tl_nil)) (fun _ _ => rfl)
  (ts_for (Γh := fun s : (List Int) => [.im ((RTup K RInt) y.1), .ow (OList RInt s), .any]) (fun (s : (List Int)) => s) (fun s => (.same (.same (.drop .nil)))) (ti_tup (K := K) (te_var 0 (R := (RTup K RInt)) (f := fun (s : (List Int)) => y.1))) (pg_name (i := 2) sc_shortened_of.nd rfl (Or.inl rfl)) (tg_name 2)
  (fun q letter268 Kn269 => (ts_if (Γj := fun s : (List Int) => [.im ((RTup K RInt) y.1), .ow (OList RInt s), .im (RInt letter268)]) (tt_w (tw_and (tt_ownNe0 1 (fun (s : (List Int)) => s) (R := RInt) (K := K) hr.units dat_int) (tw_and1 (tt_c (cr_eq flat_int) (te_ownIx 1 (fun (s : (List Int)) => s) (R := RInt) (te_neg te_int)) (te_neg (te_var 2 (R := RInt) (f := fun (s : (List Int)) => letter268)))))))
  (fun Kn270 => (ts_expr (te_pop 1 (fun (s : (List Int)) => s) (fun (s : (List Int)) t => t) (R := RInt))
  (ts_end (Γj := fun s : (List Int) => [.im ((RTup K RInt) y.1), .ow (OList RInt s), .im (RInt letter268)]) (fun (s : (List Int)) => s) (fun s => (.same (.same (.same .nil)))))))
  (fun Kn271 => (ts_expr (te_append 1 (fun (s : (List Int)) => s) (fun (s : (List Int)) t => t) (R := RInt) (te_var 2 (R := RInt) (f := fun (s : (List Int)) => letter268)))
  (ts_end (Γj := fun s : (List Int) => [.im ((RTup K RInt) y.1), .ow (OList RInt s), .im (RInt letter268)]) (fun (s : (List Int)) => s) (fun s => (.same (.same (.same .nil)))))))
  (ts_end (Γj := fun s : (List Int) => [.im ((RTup K RInt) y.1), .ow (OList RInt s), .any]) (fun (s : (List Int)) => s) (fun s => (.same (.same (.drop .nil)))))))
  (ts_ret (tn_ownTuple 1 (fun (s : (List Int)) => s) (R := RInt) (bp_tuple T.z_tuple))) PassesOwn.never))) (by exact fun _ h => h)
def m_Word_shortened_round (p_self : D_Word) (Kf : D_Word → Prop) : Prop :=
  m_shortened_of p_self.letters fun r282 => m_rounded_of r282 fun r281 => m_Word___init___v1 r281 fun w280 => Kf w280
theorem ok_Word_shortened_round (T : Tx K mg) : FnOk P w K mg base CX0 7 T.a_Word_shortened_round T.d_Word_shortened_round ["self"] (spP (acons (R_Word T) anil) (R_Word T) (fun (y : D_Word × Unit) Kf => m_Word_shortened_round y.1 Kf)) :=
  fnP T.F_Word_shortened_round sc_Word_shortened_round (fun _ => rfl) fun cdv A outer s H E hr y Kf B => ts_use (
  (ts_ret (te_make T.mk_Word (ok_Word___init___v1 T) (hr.mono (by decide)) T.g_Word T.b_Word___init__ (ta_cons (te_call (ok_rounded_of T) (hr.mono (by decide)) T.g_rounded_of T.F_rounded_of.kp T.b_rounded_of (ta_cons (te_call (ok_shortened_of T) (hr.mono (by decide)) T.g_shortened_of T.F_shortened_of.kp T.b_shortened_of (ta_cons (te_fld (fd_Word_letters T) T.cls_Word T.na_Word_letters (te_var 0 (R := (R_Word T)) (f := fun (s : Unit) => y.1))) ta_nil)) ta_nil)) ta_nil)))) (by exact fun _ h => h)
def m_l_moved_right (p_l_letters_here : (List Int)) (t : Jar) (Kf : Bool → Jar → Prop) : Prop :=
  m_l_draw (7 : Int) t fun r288 t289 => m_l_letters r288 (3 : Int) t289 fun r286 t287 => m_Word___init__ r286 fun w285 => m_Word___init__ p_l_letters_here fun w290 => m_Word_then w285 w290 fun r293 => m_Word_contrary w285 fun r294 => m_Word_then r293 r294 fun r292 => m_Word_shortened_round r292 fun r291 => m_Word_shortened_round w290 fun r295 => mB (fun (K296 : Bool → Jar → Prop) => m_turn_to r295 r291 fun r299 => (if (r299.isSome) = true then m_least_turned r291 fun r300 => m_least_turned r295 fun r301 => K296 (eqW r300 r301) t287 else K296 false t287)) (fun b297 s298 => Kf b297 s298)
theorem ok_l_moved_right (T : Tx K mg) : FnOk P w K mg base CX0 8 T.a_l_moved_right T.d_l_moved_right ["_law_jar_here", "_law_letters_here"] (spB OJar (acons (RLst RInt) anil) RBool (fun (y : (List Int) × Unit) t Kf => m_l_moved_right y.1 t Kf)) :=
  fnB T.F_l_moved_right sc_l_moved_right (fun _ => rfl) fun cdv A outer s H E hr j y Kf B => ts_use (
  (ts_par (i := 2) (j := 3) (Ra := (R_Word T)) (Rb := (R_Word T)) (ps_par rfl sc_l_moved_right.nd rfl rfl (by decide) rfl rfl (pa_cons (te_make T.mk_Word (ok_Word___init__ T) (hr.mono (by decide)) T.g_Word T.b_Word___init__ (ta_cons (te_callB 0 (fun (s : Jar) => s) (fun (s : Jar) t => t) (ok_l_letters T) (hr.mono (by decide)) T.g_l_letters T.F_l_letters.kp T.b_l_letters (ta_cons (te_callB 0 (fun (s : Jar) => s) (fun (s : Jar) t => t) (ok_l_draw T) (hr.mono (by decide)) T.g_l_draw T.F_l_draw.kp T.b_l_draw (ta_cons te_int ta_nil)) (ta_cons te_int ta_nil))) ta_nil)) (pa_cons (te_make T.mk_Word (ok_Word___init__ T) (hr.mono (by decide)) T.g_Word T.b_Word___init__ (ta_cons (te_var 1 (R := (RLst RInt)) (f := fun (s : Jar) => y.1)) ta_nil)) pa_nil)) (by rfl)) (fun l_ahead258 l_word259 =>
  (ts_set (i := 4) (R := (R_Word T)) (ps_set sc_l_moved_right.nd rfl (Or.inl rfl) (te_meth0 (mn := "shortened_round") (insR (fun _ => rfl)) (te_meth (mn := "then") (insR (fun _ => rfl)) (te_meth (mn := "then") (insR (fun _ => rfl)) (te_var 2 (R := (R_Word T)) (f := fun (s : Jar) => l_ahead258)) T.cls_Word T.me_Word_then (ok_Word_then T) (hr.mono (by decide)) T.b_Word_then (ta_cons (te_var 3 (R := (R_Word T)) (f := fun (s : Jar) => l_word259)) ta_nil)) T.cls_Word T.me_Word_then (ok_Word_then T) (hr.mono (by decide)) T.b_Word_then (ta_cons (te_meth0 (mn := "contrary") (insR (fun _ => rfl)) (te_var 2 (R := (R_Word T)) (f := fun (s : Jar) => l_ahead258)) T.cls_Word T.me_Word_contrary (ok_Word_contrary T) (hr.mono (by decide)) T.b_Word_contrary) ta_nil)) T.cls_Word T.me_Word_shortened_round (ok_Word_shortened_round T) (hr.mono (by decide)) T.b_Word_shortened_round)) (fun l_moved283 =>
  (ts_set (i := 5) (R := (R_Word T)) (ps_set sc_l_moved_right.nd rfl (Or.inl rfl) (te_meth0 (mn := "shortened_round") (insR (fun _ => rfl)) (te_var 3 (R := (R_Word T)) (f := fun (s : Jar) => l_word259)) T.cls_Word T.me_Word_shortened_round (ok_Word_shortened_round T) (hr.mono (by decide)) T.b_Word_shortened_round)) (fun l_bare284 =>
  (ts_retB 0 (fun (s : Jar) => s) (te_and (te_c cr_notN (te_call (ok_turn_to T) (hr.mono (by decide)) T.g_turn_to T.F_turn_to.kp T.b_turn_to (ta_cons (te_var 5 (R := (R_Word T)) (f := fun (s : Jar) => l_bare284)) (ta_cons (te_var 4 (R := (R_Word T)) (f := fun (s : Jar) => l_moved283)) ta_nil))) te_non) (te_and1 (te_c (cr_ownEq (C := T.C_Word) isI isI (ok_Word___eq__ T) (fun x y Kf h => eqW_ok x y Kf h) T.eq_Word T.eqf_Word T.b_Word___eq__ (hr.mono (by decide))) (te_call (ok_least_turned T) (hr.mono (by decide)) T.g_least_turned T.F_least_turned.kp T.b_least_turned (ta_cons (te_var 4 (R := (R_Word T)) (f := fun (s : Jar) => l_moved283)) ta_nil)) (te_call (ok_least_turned T) (hr.mono (by decide)) T.g_least_turned T.F_least_turned.kp T.b_least_turned (ta_cons (te_var 5 (R := (R_Word T)) (f := fun (s : Jar) => l_bare284)) ta_nil))))))))))))) (by exact fun _ h => h)
def m_law (p_l_script : (List Int)) (Kf : Bool → Prop) : Prop :=
  m_l_jar p_l_script fun t313 => ((-(2 ^ 62) ≤ (4 : Int) ∧ (4 : Int) < 2 ^ 62) ∧ mFor (rangeL 0 (4 : Int)) (fun (l_lap5 : Int) (s311 : Jar) Kn6 => m_l_drawn s311 fun r314 t315 => m_l_drawn t315 fun r316 t317 => m_l_draw (60 : Int) t317 fun r318 t319 => m_l_forms r314 fun r321 => ((max (1 : Int) (r314.length : Int)) ≠ 0 ∧ (∃ v320, pyAt r321 (r318.fmod (max (1 : Int) (r314.length : Int))) = some v320 ∧ m_l_mixed r314 t319 fun r322 t323 => (v320.length + (pyCut r314 none (some (1 : Int))).length ≤ 1000000 ∧ (r314.length ≤ 1000000 ∧ mMap r314 (fun (x81 : Int) K83 => K83 (-x81)) fun ys324 => ([v320, r316, r322, r314.reverse, (v320 ++ (pyCut r314 none (some (1 : Int)))), ys324].length ≤ 1000000 ∧ mFor [v320, r316, r322, r314.reverse, (v320 ++ (pyCut r314 none (some (1 : Int)))), ys324] (fun (l_told84 : (List Int)) (s302 : Jar) Kn85 => m_l_pair_right r314 l_told84 fun r325 => (if (!r325) = true then Kf false else
  Kn85 s302)) t323 (fun (s303 : Jar) =>
  mB (fun (K326 : Bool → Jar → Prop) => m_l_least_right r314 s303 fun r329 t330 => (if (!r329) = true then K326 true t330 else m_l_moved_right r314 t330 fun r331 t332 => K326 (!r331) t332)) (fun b327 s328 => (if b327 = true then Kf false else
  Kn6 s328))))))))) t313 (fun (s312 : Jar) =>
  m_l_draw (91 : Int) s312 fun r337 t338 => ([((30 : Int) + r337), (40 : Int), (60 : Int), (300 : Int)].length ≤ 1000000 ∧ m_l_pick [((30 : Int) + r337), (40 : Int), (60 : Int), (300 : Int)] t338 fun r335 t336 => ([(1 : Int), (2 : Int), (3 : Int), (26 : Int)].length ≤ 1000000 ∧ m_l_pick [(1 : Int), (2 : Int), (3 : Int), (26 : Int)] t336 fun r339 t340 => m_l_letters r335 r339 t340 fun r333 t334 => m_l_draw (6 : Int) t334 fun r343 t344 => m_l_letters ((20 : Int) + r343) (2 : Int) t344 fun r341 t342 => ((-(2 ^ 63) ≤ (5 : Int) ∧ (5 : Int) < 2 ^ 63 ∧ r341.length * (5 : Int).toNat ≤ 1000000) ∧ ([(pyRep r341 (5 : Int)), r333].length ≤ 1000000 ∧ mFor [(pyRep r341 (5 : Int)), r333] (fun (l_letters_here305 : (List Int)) (s309 : Jar) Kn306 => m_l_draw (l_letters_here305.length : Int) s309 fun r345 t346 => mB (fun (K347 : Bool → Jar → Prop) => ((pyCut l_letters_here305 (some r345) none).length + (pyCut l_letters_here305 none (some r345)).length ≤ 1000000 ∧ m_l_pair_right l_letters_here305 ((pyCut l_letters_here305 (some r345) none) ++ (pyCut l_letters_here305 none (some r345))) fun r350 => (if (!r350) = true then K347 true t346 else m_l_least_right l_letters_here305 t346 fun r351 t352 => K347 (!r351) t352))) (fun b348 s349 => (if b348 = true then Kf false else
  Kn306 s349))) t342 (fun (s310 : Jar) =>
  (([] : List Int).length ≤ 1000000 ∧ m_Word___init__ ([] : List Int) fun w353 => mB (fun (K354 : Bool → Jar → Prop) => m_turn_to w353 w353 fun r357 => (if (decide (r357 = (some (0 : Int)))) = true then m_least_turned w353 fun r358 => (if (eqW r358 w353) = true then ([(1 : Int)].length ≤ 1000000 ∧ m_Word___init__ [(1 : Int)] fun w360 => m_turn_to w353 w360 fun r359 => (if (r359.isNone) = true then ([(1 : Int), (-(1 : Int))].length ≤ 1000000 ∧ m_Word___init__ [(1 : Int), (-(1 : Int))] fun w362 => m_turn_to w362 w353 fun r361 => K354 (r361.isNone) s310) else K354 false s310)) else K354 false s310) else K354 false s310)) (fun b355 s356 => Kf b355)))))))))
theorem ok_law (T : Tx K mg) : FnOk P w K mg base CX0 9 T.a_law T.d_law ["_law_script"] (spP (acons (RList K RInt) anil) RBool (fun (y : (List Int) × Unit) Kf => m_law y.1 Kf)) :=
  fnP T.F_law sc_law (fun _ => rfl) fun cdv A outer s H E hr y Kf B => ts_use (
  (ts_setCallO (i := 1) (O := OJar) (Γ' := fun (s : Jar) => [.im ((RList K RInt) y.1), .ow (OJar s), .any, .any, .any, .any, .any, .any, .any, .any, .any]) (mk := fun (s : Unit) t => t) sc_law.nd (ok_l_jar T) (hr.mono (by decide)) T.g_l_jar T.F_l_jar.kp T.b_l_jar (ta_cons (te_var 0 (R := (RList K RInt)) (f := fun (s : Unit) => y.1)) ta_nil) (fun _ _ => rfl)
  (ts_for (Γh := fun s : Jar => [.im ((RList K RInt) y.1), .ow (OJar s), .any, .any, .any, .any, .any, .any, .any, .any, .any]) (fun (s : Jar) => s) (fun s => (.same (.same (.drop (.drop (.drop (.drop (.drop (.drop (.drop (.drop (.drop .nil)))))))))))) (ti_range1 T.z_range te_int) (pg_name (i := 2) sc_law.nd rfl (Or.inl rfl)) (tg_name 2)
  (fun q l_lap5 Kn6 => (ts_par (i := 3) (j := 4) (Ra := (RLst RInt)) (Rb := (RLst RInt)) (ps_par rfl sc_law.nd rfl rfl (by decide) rfl rfl (pa_cons (te_callO 1 (fun (s : Jar) => s) (fun (s : Jar) t => t) (ok_l_drawn T) (hr.mono (by decide)) T.g_l_drawn T.F_l_drawn.kp T.b_l_drawn ta_nil) (pa_cons (te_callO 1 (fun (s : Jar) => s) (fun (s : Jar) t => t) (ok_l_drawn T) (hr.mono (by decide)) T.g_l_drawn T.F_l_drawn.kp T.b_l_drawn ta_nil) pa_nil)) (by rfl)) (fun l_letters_here64 l_others65 =>
  (ts_set (i := 5) (R := RInt) (ps_set sc_law.nd rfl (Or.inl rfl) (te_callO 1 (fun (s : Jar) => s) (fun (s : Jar) t => t) (ok_l_draw T) (hr.mono (by decide)) T.g_l_draw T.F_l_draw.kp T.b_l_draw (ta_cons te_int ta_nil))) (fun l_by66 =>
  (ts_set (i := 6) (R := (RLst RInt)) (ps_set sc_law.nd rfl (Or.inl rfl) (te_lst (tn_tupList (bp_list T.z_list) (te_ixL (te_l (te_call (ok_l_forms T) (hr.mono (by decide)) T.g_l_forms T.F_l_forms.kp T.b_l_forms (ta_cons (te_var 3 (R := (RLst RInt)) (f := fun (s : Jar) => l_letters_here64)) ta_nil))) (te_mod (te_toint (bp_int T.z_int) (te_var 5 (R := RInt) (f := fun (s : Jar) => l_by66))) (te_max2 (bp_max T.z_max) te_int (te_len (bp_len T.z_len) lens_list (te_l (te_var 3 (R := (RLst RInt)) (f := fun (s : Jar) => l_letters_here64)))))))))) (fun l_turned73 =>
  (ts_for (Γh := fun s : Jar => [.im ((RList K RInt) y.1), .ow (OJar s), .im (RInt l_lap5), .im ((RLst RInt) l_letters_here64), .im ((RLst RInt) l_others65), .im (RInt l_by66), .im ((RLst RInt) l_turned73), .any, .any, .any, .any]) (fun (s : Jar) => s) (fun s => (.same (.same (.same (.same (.same (.same (.same (.drop (.drop (.drop (.drop .nil)))))))))))) (ti_tup (K := K) (te_tuple (K := K) (R := (RLst RInt)) (tl_cons (te_var 6 (R := (RLst RInt)) (f := fun (s : Jar) => l_turned73)) (tl_cons (te_var 4 (R := (RLst RInt)) (f := fun (s : Jar) => l_others65)) (tl_cons (te_callO 1 (fun (s : Jar) => s) (fun (s : Jar) t => t) (ok_l_mixed T) (hr.mono (by decide)) T.g_l_mixed T.F_l_mixed.kp T.b_l_mixed (ta_cons (te_var 3 (R := (RLst RInt)) (f := fun (s : Jar) => l_letters_here64)) ta_nil)) (tl_cons (te_lst (tn_rev (te_l (te_var 3 (R := (RLst RInt)) (f := fun (s : Jar) => l_letters_here64))))) (tl_cons (te_lst (tn_cat (te_var 6 (R := (RLst RInt)) (f := fun (s : Jar) => l_turned73)) (te_lst (tn_cut (te_l (te_var 3 (R := (RLst RInt)) (f := fun (s : Jar) => l_letters_here64))) to_none (to_some te_int))))) (tl_cons (te_lst (tn_map sc_law.nd (ti_list (K := K) (te_l (te_var 3 (R := (RLst RInt)) (f := fun (s : Jar) => l_letters_here64)))) (blkOk_by (own := [("_law_letter", 10)]) (N := ["_law_script", "_law_jar_here", "_law_lap", "_law_letters_here", "_law_others", "_law_by", "_law_turned", "_law_told", "_law_wide", "_law_none", "_law_letter"]) (sc := defScope s_law) (by decide +kernel)) (fun _ _ _ _ _ => (pg_name (i := 10) sc_law.nd rfl (Or.inl rfl))) (tg_name 10) (fun s82 x81 B' s H C cl fp => (te_neg (te_var 10 (R := RInt) (f := fun (s : Unit) => x81)))))) tl_nil)))))))) (pg_name (i := 7) sc_law.nd rfl (Or.inl rfl)) (tg_name 7)
  (fun q l_told84 Kn85 => (ts_ifr (tt_not (tt_val (te_call (ok_l_pair_right T) (hr.mono (by decide)) T.g_l_pair_right T.F_l_pair_right.kp T.b_l_pair_right (ta_cons (te_var 3 (R := (RLst RInt)) (f := fun (s : Jar) => l_letters_here64)) (ta_cons (te_var 7 (R := (RLst RInt)) (f := fun (s : Jar) => l_told84)) ta_nil)))))
  (ts_ret te_bl)
  (ts_end (Γj := fun s : Jar => [.im ((RList K RInt) y.1), .ow (OJar s), .im (RInt l_lap5), .im ((RLst RInt) l_letters_here64), .im ((RLst RInt) l_others65), .im (RInt l_by66), .im ((RLst RInt) l_turned73), .any, .any, .any, .any]) (fun (s : Jar) => s) (fun s => (.same (.same (.same (.same (.same (.same (.same (.drop (.drop (.drop (.drop .nil)))))))))))))))
  (ts_ifr (tt_w (tw_or (tt_not (tt_val (te_callO 1 (fun (s : Jar) => s) (fun (s : Jar) t => t) (ok_l_least_right T) (hr.mono (by decide)) T.g_l_least_right T.F_l_least_right.kp T.b_l_least_right (ta_cons (te_var 3 (R := (RLst RInt)) (f := fun (s : Jar) => l_letters_here64)) ta_nil)))) (tw_or1 (tt_not (tt_val (te_callO 1 (fun (s : Jar) => s) (fun (s : Jar) t => t) (ok_l_moved_right T) (hr.mono (by decide)) T.g_l_moved_right T.F_l_moved_right.kp T.b_l_moved_right (ta_cons (te_var 3 (R := (RLst RInt)) (f := fun (s : Jar) => l_letters_here64)) ta_nil)))))))
  (ts_ret te_bl)
  (ts_end (Γj := fun s : Jar => [.im ((RList K RInt) y.1), .ow (OJar s), .any, .any, .any, .any, .any, .any, .any, .any, .any]) (fun (s : Jar) => s) (fun s => (.same (.same (.drop (.drop (.drop (.drop (.drop (.drop (.drop (.drop (.drop .nil)))))))))))))) PassesOwn.never))))))))
  (ts_set (i := 8) (R := (RLst RInt)) (ps_set sc_law.nd rfl (Or.inl rfl) (te_callO 1 (fun (s : Jar) => s) (fun (s : Jar) t => t) (ok_l_letters T) (hr.mono (by decide)) T.g_l_letters T.F_l_letters.kp T.b_l_letters (ta_cons (te_callO 1 (fun (s : Jar) => s) (fun (s : Jar) t => t) (ok_l_pick T) (hr.mono (by decide)) T.g_l_pick T.F_l_pick.kp T.b_l_pick (ta_cons (te_lst (tn_list (R := RInt) (tl_cons (te_add te_int (te_callO 1 (fun (s : Jar) => s) (fun (s : Jar) t => t) (ok_l_draw T) (hr.mono (by decide)) T.g_l_draw T.F_l_draw.kp T.b_l_draw (ta_cons te_int ta_nil))) (tl_cons te_int (tl_cons te_int (tl_cons te_int tl_nil)))))) ta_nil)) (ta_cons (te_callO 1 (fun (s : Jar) => s) (fun (s : Jar) t => t) (ok_l_pick T) (hr.mono (by decide)) T.g_l_pick T.F_l_pick.kp T.b_l_pick (ta_cons (te_lst (tn_list (R := RInt) (tl_cons te_int (tl_cons te_int (tl_cons te_int (tl_cons te_int tl_nil)))))) ta_nil)) ta_nil)))) (fun l_wide304 =>
  (ts_for (Γh := fun s : Jar => [.im ((RList K RInt) y.1), .ow (OJar s), .any, .any, .any, .any, .any, .any, .im ((RLst RInt) l_wide304), .any, .any]) (fun (s : Jar) => s) (fun s => (.same (.same (.drop (.drop (.drop (.drop (.drop (.drop (.same (.drop (.drop .nil)))))))))))) (ti_tup (K := K) (te_tuple (K := K) (R := (RLst RInt)) (tl_cons (te_lst (tn_rep (te_callO 1 (fun (s : Jar) => s) (fun (s : Jar) t => t) (ok_l_letters T) (hr.mono (by decide)) T.g_l_letters T.F_l_letters.kp T.b_l_letters (ta_cons (te_add te_int (te_callO 1 (fun (s : Jar) => s) (fun (s : Jar) t => t) (ok_l_draw T) (hr.mono (by decide)) T.g_l_draw T.F_l_draw.kp T.b_l_draw (ta_cons te_int ta_nil))) (ta_cons te_int ta_nil))) te_int)) (tl_cons (te_var 8 (R := (RLst RInt)) (f := fun (s : Jar) => l_wide304)) tl_nil)))) (pg_name (i := 3) sc_law.nd rfl (Or.inl rfl)) (tg_name 3)
  (fun q l_letters_here305 Kn306 => (ts_set (i := 5) (R := RInt) (ps_set sc_law.nd rfl (Or.inl rfl) (te_callO 1 (fun (s : Jar) => s) (fun (s : Jar) t => t) (ok_l_draw T) (hr.mono (by decide)) T.g_l_draw T.F_l_draw.kp T.b_l_draw (ta_cons (te_len (bp_len T.z_len) lens_list (te_l (te_var 3 (R := (RLst RInt)) (f := fun (s : Jar) => l_letters_here305)))) ta_nil))) (fun l_by307 =>
  (ts_ifr (tt_w (tw_or (tt_not (tt_val (te_call (ok_l_pair_right T) (hr.mono (by decide)) T.g_l_pair_right T.F_l_pair_right.kp T.b_l_pair_right (ta_cons (te_var 3 (R := (RLst RInt)) (f := fun (s : Jar) => l_letters_here305)) (ta_cons (te_lst (tn_cat (te_lst (tn_cut (te_l (te_var 3 (R := (RLst RInt)) (f := fun (s : Jar) => l_letters_here305))) (to_some (te_var 5 (R := RInt) (f := fun (s : Jar) => l_by307))) to_none)) (te_lst (tn_cut (te_l (te_var 3 (R := (RLst RInt)) (f := fun (s : Jar) => l_letters_here305))) to_none (to_some (te_var 5 (R := RInt) (f := fun (s : Jar) => l_by307))))))) ta_nil))))) (tw_or1 (tt_not (tt_val (te_callO 1 (fun (s : Jar) => s) (fun (s : Jar) t => t) (ok_l_least_right T) (hr.mono (by decide)) T.g_l_least_right T.F_l_least_right.kp T.b_l_least_right (ta_cons (te_var 3 (R := (RLst RInt)) (f := fun (s : Jar) => l_letters_here305)) ta_nil)))))))
  (ts_ret te_bl)
  (ts_end (Γj := fun s : Jar => [.im ((RList K RInt) y.1), .ow (OJar s), .any, .any, .any, .any, .any, .any, .im ((RLst RInt) l_wide304), .any, .any]) (fun (s : Jar) => s) (fun s => (.same (.same (.drop (.drop (.drop (.drop (.drop (.drop (.same (.drop (.drop .nil)))))))))))))))))
  (ts_set (i := 9) (R := (R_Word T)) (ps_set sc_law.nd rfl (Or.inl rfl) (te_make T.mk_Word (ok_Word___init__ T) (hr.mono (by decide)) T.g_Word T.b_Word___init__ (ta_cons (te_lst (tn_list (R := RInt) tl_nil)) ta_nil))) (fun l_none308 =>
  (ts_ret (te_and (te_c (cr_eq flat_optI) (te_call (ok_turn_to T) (hr.mono (by decide)) T.g_turn_to T.F_turn_to.kp T.b_turn_to (ta_cons (te_var 9 (R := (R_Word T)) (f := fun (s : Jar) => l_none308)) (ta_cons (te_var 9 (R := (R_Word T)) (f := fun (s : Jar) => l_none308)) ta_nil))) (te_some te_int nn_int)) (te_and (te_c (cr_ownEq (C := T.C_Word) isI isI (ok_Word___eq__ T) (fun x y Kf h => eqW_ok x y Kf h) T.eq_Word T.eqf_Word T.b_Word___eq__ (hr.mono (by decide))) (te_call (ok_least_turned T) (hr.mono (by decide)) T.g_least_turned T.F_least_turned.kp T.b_least_turned (ta_cons (te_var 9 (R := (R_Word T)) (f := fun (s : Jar) => l_none308)) ta_nil)) (te_var 9 (R := (R_Word T)) (f := fun (s : Jar) => l_none308))) (te_and (te_c cr_isN (te_call (ok_turn_to T) (hr.mono (by decide)) T.g_turn_to T.F_turn_to.kp T.b_turn_to (ta_cons (te_var 9 (R := (R_Word T)) (f := fun (s : Jar) => l_none308)) (ta_cons (te_make T.mk_Word (ok_Word___init__ T) (hr.mono (by decide)) T.g_Word T.b_Word___init__ (ta_cons (te_lst (tn_list (R := RInt) (tl_cons te_int tl_nil))) ta_nil)) ta_nil))) te_non) (te_and1 (te_c cr_isN (te_call (ok_turn_to T) (hr.mono (by decide)) T.g_turn_to T.F_turn_to.kp T.b_turn_to (ta_cons (te_make T.mk_Word (ok_Word___init__ T) (hr.mono (by decide)) T.g_Word T.b_Word___init__ (ta_cons (te_lst (tn_list (R := RInt) (tl_cons te_int (tl_cons (te_neg te_int) tl_nil)))) ta_nil)) (ta_cons (te_var 9 (R := (R_Word T)) (f := fun (s : Jar) => l_none308)) ta_nil))) te_non)))))))) PassesOwn.never))) PassesOwn.never))) (by exact fun _ h => h)
end
end G
/-! words over letters: shortening, contrary, cores -/
namespace WM
def push (x : Int) : List Int → List Int
  | [] => [x]
  | y :: r => if x = -y then r else x :: y :: r
theorem push_cons (x y : Int) (r : List Int) : push x (y :: r) = if x = -y then r else x :: y :: r := rfl
def red (l : List Int) : List Int := l.foldr push []
def Rd : List Int → Prop
  | [] => True
  | [_] => True
  | x :: y :: r => x ≠ -y ∧ Rd (y :: r)
theorem rd_tail {x : Int} : ∀ {r : List Int}, Rd (x :: r) → Rd r
  | [], _ => trivial
  | _ :: _, h => h.2
theorem rd_push {x : Int} : ∀ {r : List Int}, Rd r → Rd (push x r)
  | [], _ => trivial
  | y :: r, h => by
    rw [push_cons]
    split
    · exact rd_tail h
    · rename_i n; exact ⟨n, h⟩
theorem rd_red : ∀ l : List Int, Rd (red l)
  | [] => trivial
  | x :: l => rd_push (rd_red l)
theorem push_of {x : Int} : ∀ {r : List Int}, Rd (x :: r) → push x r = x :: r
  | [], _ => rfl
  | y :: r, h => if_neg h.1
theorem red_of : ∀ {l : List Int}, Rd l → red l = l
  | [], _ => rfl
  | x :: l, h => by
    show push x (red l) = x :: l
    rw [red_of (rd_tail h), push_of h]
theorem red_red (l : List Int) : red (red l) = red l := red_of (rd_red l)
theorem push_push {x : Int} : ∀ {r : List Int}, Rd r → push x (push (-x) r) = r
  | [], _ => by
    show push x [-x] = []
    rw [push_cons, if_pos (by omega)]
  | y :: r, h => by
    by_cases e : -x = -y
    · have e1 : x = y := by omega
      subst e1
      have : push (-x) (x :: r) = r := if_pos rfl
      rw [this, push_of h]
    · have : push (-x) (y :: r) = -x :: y :: r := if_neg e
      rw [this]
      exact if_pos (by omega)
theorem red_append (a b : List Int) : red (a ++ b) = a.foldr push (red b) := by
  unfold red
  rw [List.foldr_append]
theorem red_cons (x : Int) (l : List Int) : red (x :: l) = push x (red l) := rfl
theorem red_cancel (a b : List Int) (x : Int) : red (a ++ x :: -x :: b) = red (a ++ b) := by
  rw [red_append, red_append, red_cons, red_cons, push_push (rd_red b)]
theorem red_app_red (a b : List Int) : red (a ++ red b) = red (a ++ b) := by
  rw [red_append, red_append, red_red]
theorem push_app (x : Int) : ∀ (r b : List Int), red (push x r ++ b) = push x (red (r ++ b))
  | [], b => rfl
  | y :: r, b => by
    by_cases e : x = -y
    · have e2 : push x (y :: r) = r := if_pos e
      have e3 : y = -x := by omega
      rw [e2]
      show _ = push x (push y (red (r ++ b)))
      rw [e3, push_push (rd_red _)]
    · have e2 : push x (y :: r) = x :: y :: r := if_neg e
      rw [e2]; rfl
theorem red_red_app : ∀ (a b : List Int), red (red a ++ b) = red (a ++ b)
  | [], b => rfl
  | x :: a, b => by
    show red (push x (red a) ++ b) = push x (red (a ++ b))
    rw [push_app, red_red_app a b]
theorem red_congr {b b' : List Int} (a c : List Int) (h : red b = red b') : red (a ++ b ++ c) = red (a ++ b' ++ c) := by
  rw [List.append_assoc, List.append_assoc, ← red_app_red a (b ++ c), ← red_app_red a (b' ++ c), ← red_red_app b, ← red_red_app b', h]
theorem red_congr2 {a a' b b' : List Int} (h : red a = red a') (h' : red b = red b') : red (a ++ b) = red (a' ++ b') := by
  rw [← red_red_app a, ← red_red_app a', ← red_app_red _ b, ← red_app_red _ b', h, h']
/-- the contrary word -/
def inv (l : List Int) : List Int := l.reverse.map fun x => -x
theorem inv_nil : inv [] = [] := rfl
theorem inv_cons (x : Int) (l : List Int) : inv (x :: l) = inv l ++ [-x] := by simp [inv]
theorem inv_app (a b : List Int) : inv (a ++ b) = inv b ++ inv a := by simp [inv]
theorem inv_inv (l : List Int) : inv (inv l) = l := by
  unfold inv
  rw [← List.map_reverse, List.reverse_reverse, List.map_map]
  have : ((fun x : Int => -x) ∘ fun x => -x) = id := by funext x; show - -x = x; omega
  rw [this, List.map_id]
theorem inv_len (l : List Int) : (inv l).length = l.length := by simp [inv]
theorem red_inv_right : ∀ (l b : List Int), red (l ++ (inv l ++ b)) = red b
  | [], b => rfl
  | x :: l, b => by
    rw [inv_cons]
    show push x (red (l ++ (inv l ++ [-x] ++ b))) = red b
    have : inv l ++ [-x] ++ b = inv l ++ (-x :: b) := by simp
    rw [this, red_inv_right l, red_cons, push_push (rd_red b)]
theorem red_inv_left (l b : List Int) : red (inv l ++ (l ++ b)) = red b := by
  have := red_inv_right (inv l) b
  rwa [inv_inv] at this
theorem rd_append : ∀ {a b : List Int}, Rd (a ++ b) ↔ Rd a ∧ Rd b ∧ ∀ x y, a.getLast? = some x → b.head? = some y → x ≠ -y
  | [], b => by simp [Rd]
  | [x], [] => by simp [Rd]
  | [x], y :: b => by
    show (x ≠ -y ∧ Rd (y :: b)) ↔ _
    simp [Rd]
    constructor
    · rintro ⟨h1, h2⟩; exact ⟨h2, h1⟩
    · rintro ⟨h1, h2⟩; exact ⟨h2, h1⟩
  | x :: z :: a, b => by
    have ih := rd_append (a := z :: a) (b := b)
    show (x ≠ -z ∧ Rd (z :: a ++ b)) ↔ _
    rw [ih]
    have e : (x :: z :: a).getLast? = (z :: a).getLast? := by simp [List.getLast?_cons_cons]
    rw [e]
    show _ ↔ (x ≠ -z ∧ Rd (z :: a)) ∧ _
    constructor
    · rintro ⟨h1, h2, h3, h4⟩; exact ⟨⟨h1, h2⟩, h3, h4⟩
    · rintro ⟨⟨h1, h2⟩, h3, h4⟩; exact ⟨h1, h2, h3, h4⟩
theorem rd_left {a b : List Int} (h : Rd (a ++ b)) : Rd a := (rd_append.mp h).1
theorem rd_right {a b : List Int} (h : Rd (a ++ b)) : Rd b := (rd_append.mp h).2.1
theorem inv_head (l : List Int) : (inv l).head? = l.getLast?.map fun x => -x := by
  unfold inv
  rw [List.head?_map, List.head?_reverse]
theorem inv_last (l : List Int) : (inv l).getLast? = l.head?.map fun x => -x := by
  unfold inv
  rw [List.getLast?_map, List.getLast?_reverse]
theorem rd_inv : ∀ {l : List Int}, Rd l → Rd (inv l)
  | [], _ => trivial
  | x :: l, h => by
    rw [inv_cons]
    refine rd_append.mpr ⟨rd_inv (rd_tail h), trivial, fun a b ha hb => ?_⟩
    rw [inv_last] at ha
    simp at hb
    subst hb
    cases l with
    | nil => simp at ha
    | cons y l =>
      simp at ha
      subst ha
      have := h.1
      omega
theorem red_inv_push (x : Int) : ∀ {r : List Int}, Rd r → red (inv (x :: r)) = inv (push x r)
  | [], _ => rfl
  | y :: r, h => by
    by_cases e : x = -y
    · have e2 : push x (y :: r) = r := if_pos e
      rw [e2, inv_cons, inv_cons]
      have e3 : inv r ++ [-y] ++ [-x] = inv r ++ (-y :: -(-y) :: []) := by rw [e]; simp
      rw [e3, red_cancel, List.append_nil]
      exact red_of (rd_inv (rd_tail h))
    · have e2 : push x (y :: r) = x :: y :: r := if_neg e
      rw [e2]
      exact red_of (rd_inv ⟨e, h⟩)
theorem red_inv : ∀ l : List Int, red (inv l) = inv (red l)
  | [] => rfl
  | x :: l => by
    rw [inv_cons, ← red_red_app, red_inv l, ← inv_cons, red_inv_push x (rd_red l)]
    rfl
theorem red_mem : ∀ {l : List Int} {x : Int}, x ∈ red l → x ∈ l
  | y :: l, x, h => by
    have h : x ∈ push y (red l) := h
    cases e : red l with
    | nil =>
      rw [e] at h
      simp [push] at h
      subst h; exact List.mem_cons_self
    | cons z r =>
      rw [e, push_cons] at h
      split at h
      · exact List.mem_cons_of_mem _ (red_mem (by rw [e]; exact List.mem_cons_of_mem _ h))
      · rcases List.mem_cons.mp h with h | h
        · subst h; exact List.mem_cons_self
        · exact List.mem_cons_of_mem _ (red_mem (by rw [e]; exact h))
theorem push_len (x : Int) : ∀ r : List Int, (push x r).length ≤ r.length + 1
  | [] => Nat.le_refl _
  | y :: r => by
    rw [push_cons]
    split
    · simp; omega
    · simp
theorem red_len : ∀ l : List Int, (red l).length ≤ l.length
  | [] => Nat.le_refl _
  | x :: l => by
    have := push_len x (red l)
    have := red_len l
    show (push x (red l)).length ≤ l.length + 1
    omega
/-! powers -/
def rep (n : Nat) (l : List Int) : List Int := (List.replicate n l).flatten
theorem rep_zero (l : List Int) : rep 0 l = [] := rfl
theorem rep_succ (n : Nat) (l : List Int) : rep (n + 1) l = l ++ rep n l := by simp [rep, List.replicate_succ]
theorem rep_nil : ∀ n, rep n [] = []
  | 0 => rfl
  | n + 1 => by rw [rep_succ, rep_nil n]; rfl
theorem rep_len : ∀ n (l : List Int), (rep n l).length = n * l.length
  | 0, l => by simp [rep]
  | n + 1, l => by rw [rep_succ, List.length_append, rep_len n l, Nat.succ_mul, Nat.add_comm]
theorem red_rep {l l' : List Int} (h : red l = red l') : ∀ n, red (rep n l) = red (rep n l')
  | 0 => rfl
  | n + 1 => by rw [rep_succ, rep_succ]; exact red_congr2 h (red_rep h n)
theorem red_rep_conj (p b : List Int) : ∀ n, red (rep n (p ++ b ++ inv p)) = red (p ++ rep n b ++ inv p)
  | 0 => by
    have := red_inv_right p []
    rw [List.append_nil] at this
    show red [] = red (p ++ [] ++ inv p)
    rw [List.append_nil, this]
  | n + 1 => by
    rw [rep_succ, rep_succ, ← red_app_red, red_rep_conj p b n, red_app_red]
    have e : p ++ b ++ inv p ++ (p ++ rep n b ++ inv p) = (p ++ b) ++ (inv p ++ (p ++ (rep n b ++ inv p))) := by simp
    rw [e, ← red_app_red, red_inv_left, red_app_red]
    simp
end WM
namespace WM
/-- no letter at the front meets its contrary at the end -/
def Cyc (b : List Int) : Prop := ∀ x y, 1 < b.length → b.head? = some x → b.getLast? = some y → x ≠ -y
def coreF : Nat → List Int → List Int
  | 0, l => l
  | n + 1, l => if 1 < l.length ∧ l.head? = l.getLast?.map (fun x => -x) then coreF n l.tail.dropLast else l
def core (l : List Int) : List Int := coreF l.length l
theorem ends_of {l : List Int} (h : 1 < l.length) : ∃ x m y, l = x :: (m ++ [y]) := by
  cases l with
  | nil => simp at h
  | cons x r =>
    refine ⟨x, r.dropLast, r.getLast (by intro z; subst z; simp at h), ?_⟩
    rw [List.dropLast_concat_getLast]
theorem head_ends (x y : Int) (m : List Int) : (x :: (m ++ [y])).head? = some x := rfl
theorem last_ends (x y : Int) (m : List Int) : (x :: (m ++ [y])).getLast? = some y := by
  rw [← List.cons_append, List.getLast?_append]; rfl
theorem mid_ends (x y : Int) (m : List Int) : (x :: (m ++ [y])).tail.dropLast = m := by simp
theorem coreF_spec : ∀ (n : Nat) (l : List Int), l.length ≤ n → ∃ p, l = p ++ coreF n l ++ inv p ∧ Cyc (coreF n l)
  | 0, l, h => by
    have : l = [] := List.eq_nil_of_length_eq_zero (by omega)
    subst this
    exact ⟨[], rfl, fun x y h => by simp [coreF] at h⟩
  | n + 1, l, h => by
    by_cases c : 1 < l.length ∧ l.head? = l.getLast?.map (fun x => -x)
    · have e : coreF (n + 1) l = coreF n l.tail.dropLast := if_pos c
      obtain ⟨x, m, y, rfl⟩ := ends_of c.1
      have c2 := c.2
      rw [head_ends, last_ends] at c2
      simp at c2
      rw [e, mid_ends]
      obtain ⟨p, h1, h2⟩ := coreF_spec n m (by simp at h; omega)
      refine ⟨x :: p, ?_, h2⟩
      rw [inv_cons]
      have : x :: p ++ coreF n m ++ (inv p ++ [-x]) = x :: ((p ++ coreF n m ++ inv p) ++ [-x]) := by simp
      rw [this, ← h1, c2]
      simp
    · have e : coreF (n + 1) l = l := if_neg c
      rw [e]
      refine ⟨[], by simp [inv], fun x y h1 h2 h3 q => c ⟨h1, ?_⟩⟩
      rw [h2, h3, q]; rfl
theorem core_spec (l : List Int) : ∃ p, l = p ++ core l ++ inv p ∧ Cyc (core l) := coreF_spec _ l (Nat.le_refl _)
theorem core_uniq : ∀ {p p' b b' : List Int}, p ++ b ++ inv p = p' ++ b' ++ inv p' → Cyc b → Cyc b' → b = b' ∧ p = p'
  | [], [], b, b', h, _, _ => by simpa [inv] using h
  | [], x :: p, b, b', h, hb, _ => by
    exfalso
    rw [inv_cons] at h
    have e : b = x :: ((p ++ b' ++ inv p) ++ [-x]) := by
      simp [inv_nil] at h
      rw [h]; simp
    subst e
    refine hb x (-x) (by simp; omega) rfl (last_ends _ _ _) (by omega)
  | x :: p, [], b, b', h, _, hb => by
    exfalso
    rw [inv_cons] at h
    have e : b' = x :: ((p ++ b ++ inv p) ++ [-x]) := by
      simp [inv_nil] at h
      rw [← h]; simp
    subst e
    refine hb x (-x) (by simp; omega) rfl (last_ends _ _ _) (by omega)
  | x :: p, y :: p', b, b', h, h1, h2 => by
    rw [inv_cons, inv_cons] at h
    have h : x :: ((p ++ b ++ inv p) ++ [-x]) = y :: ((p' ++ b' ++ inv p') ++ [-y]) := by
      have e1 : x :: p ++ b ++ (inv p ++ [-x]) = x :: ((p ++ b ++ inv p) ++ [-x]) := by simp
      have e2 : y :: p' ++ b' ++ (inv p' ++ [-y]) = y :: ((p' ++ b' ++ inv p') ++ [-y]) := by simp
      rw [← e1, ← e2, h]
    injection h with hx h
    have h := (List.append_inj' h rfl).1
    obtain ⟨r1, r2⟩ := core_uniq h h1 h2
    exact ⟨r1, by rw [hx, r2]⟩
theorem core_is {l p b : List Int} (h : l = p ++ b ++ inv p) (hb : Cyc b) : core l = b := by
  obtain ⟨q, h1, h2⟩ := core_spec l
  have := (core_uniq (h1.symm.trans h) h2 hb).1
  exact this
theorem core_of {b : List Int} (hb : Cyc b) : core b = b := core_is (p := []) (by simp [inv]) hb
theorem cyc_core (l : List Int) : Cyc (core l) := (core_spec l).choose_spec.2
theorem core_core (l : List Int) : core (core l) = core l := core_of (cyc_core l)
theorem cyc_nil : Cyc [] := fun x y h => by simp at h
theorem core_nil : core [] = [] := core_of cyc_nil
theorem rd_core {l : List Int} (h : Rd l) : Rd (core l) := by
  obtain ⟨p, h1, _⟩ := core_spec l
  rw [h1] at h
  exact rd_right (rd_left h)
theorem core_mem {l : List Int} {x : Int} (h : x ∈ core l) : x ∈ l := by
  obtain ⟨p, h1, _⟩ := core_spec l
  rw [h1]
  simp [h]
theorem core_len (l : List Int) : ∃ k, l.length = 2 * k + (core l).length := by
  obtain ⟨p, h1, _⟩ := core_spec l
  refine ⟨p.length, ?_⟩
  have := congrArg List.length h1
  simp [inv_len] at this
  omega
/-! turned -/
def Rot (b m : List Int) : Prop := ∃ u v, b = u ++ v ∧ m = v ++ u
theorem Rot.refl (b : List Int) : Rot b b := ⟨[], b, rfl, by simp⟩
theorem Rot.trans {a b c : List Int} (h1 : Rot a b) (h2 : Rot b c) : Rot a c := by
  obtain ⟨u, v, rfl, rfl⟩ := h1
  obtain ⟨u', v', h3, rfl⟩ := h2
  rcases List.append_eq_append_iff.mp h3 with ⟨t, e1, e2⟩ | ⟨t, e1, e2⟩
  · subst e1; subst e2
    exact ⟨t, v' ++ v, by simp, by simp⟩
  · subst e1; subst e2
    exact ⟨u ++ u', t, by simp, by simp⟩
theorem rot1 {w : List Int} (x : Int) (hw : Rd w) : Rot (core w) (core (red (x :: (w ++ [-x])))) := by
  obtain ⟨p, h1, h2⟩ := core_spec w
  generalize core w = b at h1 h2
  cases p with
  | cons y p =>
    have e0 : w = y :: ((p ++ b ++ inv p) ++ [-y]) := by rw [h1, inv_cons]; simp
    have hm : Rd (p ++ b ++ inv p) := by
      rw [e0] at hw
      exact rd_left (rd_tail hw)
    by_cases e : x = -y
    · have ey : y = -x := by omega
      have e3 : red (x :: (w ++ [-x])) = p ++ b ++ inv p := by
        rw [e0, ey]
        have : x :: (-x :: (p ++ b ++ inv p ++ [- -x]) ++ [-x]) = [] ++ x :: -x :: ((p ++ b ++ inv p) ++ x :: -x :: []) := by simp
        rw [this, red_cancel, List.nil_append, red_cancel, List.append_nil, red_of hm]
      rw [e3, core_is rfl h2]
      exact Rot.refl _
    · have hr : Rd (x :: (w ++ [-x])) := by
        rw [← List.cons_append]
        refine rd_append.mpr ⟨by rw [e0] at hw ⊢; exact ⟨e, hw⟩, trivial, fun a c ha hc => ?_⟩
        simp at hc
        subst hc
        rw [e0] at ha
        have : (x :: y :: (p ++ b ++ inv p ++ [-y])).getLast? = some (-y) := by
          rw [List.getLast?_cons_cons, last_ends]
        rw [this] at ha
        simp at ha
        omega
      rw [red_of hr, core_is (p := x :: y :: p) (b := b) (by rw [inv_cons, h1]; simp) h2]
      exact Rot.refl _
  | nil =>
    have e0 : w = b := by simpa [inv] using h1
    subst e0
    cases w with
    | nil =>
      have : red (x :: ([] ++ [-x])) = [] := red_cancel [] [] x
      rw [this, core_nil]
      exact Rot.refl _
    | cons y r =>
      by_cases e : x = -y
      · have ey : -x = y := by omega
        have e3 : red (x :: (y :: r ++ [-x])) = red (r ++ [y]) := by
          rw [ey]
          have e5 : x :: (y :: r ++ [y]) = [] ++ x :: -x :: (r ++ [y]) := by rw [ey]; simp
          rw [e5, red_cancel, List.nil_append]
        have hr : Rd (r ++ [y]) := by
          refine rd_append.mpr ⟨rd_tail hw, trivial, fun a c ha hc => ?_⟩
          simp at hc
          subst hc
          cases r with
          | nil => simp at ha
          | cons z r =>
            have := h2 y a (by simp) rfl (by rw [List.getLast?_cons_cons]; exact ha)
            omega
        have hc : Cyc (r ++ [y]) := fun a c hl ha hc => by
          cases r with
          | nil => simp at hl
          | cons z r =>
            simp at ha
            subst ha
            rw [List.cons_append, last_ends] at hc
            simp at hc
            subst hc
            have := hw.1
            omega
        rw [e3, red_of hr, core_of hc]
        exact ⟨[y], r, rfl, rfl⟩
      · by_cases el : (y :: r).getLast? = some x
        · obtain ⟨s, es⟩ : ∃ s, y :: r = s ++ [x] := by
            refine ⟨(y :: r).dropLast, ?_⟩
            have h5 : (y :: r).getLast (by simp) = x := by
              rw [List.getLast?_eq_some_getLast (by simp)] at el
              exact Option.some.inj el
            rw [← h5, List.dropLast_concat_getLast]
          have e3 : red (x :: (y :: r ++ [-x])) = red (x :: s) := by
            rw [es]
            have : x :: (s ++ [x] ++ [-x]) = (x :: s) ++ x :: -x :: [] := by simp
            rw [this, red_cancel, List.append_nil]
          have hr : Rd (x :: s) := by
            cases s with
            | nil => trivial
            | cons z s =>
              have ez : y = z := by simp at es; exact es.1
              subst ez
              refine ⟨e, ?_⟩
              rw [es] at hw
              exact rd_left hw
          have hc : Cyc (x :: s) := fun a c hl ha hc => by
            simp at ha
            subst ha
            cases s with
            | nil => simp at hl
            | cons z s =>
              rw [List.getLast?_cons_cons] at hc
              rw [es] at hw
              have := (rd_append.mp hw).2.2 c x hc rfl
              omega
          rw [e3, red_of hr, core_of hc, es]
          exact ⟨s, [x], rfl, rfl⟩
        · have hr : Rd (x :: (y :: r ++ [-x])) := by
            rw [← List.cons_append]
            refine rd_append.mpr ⟨⟨e, hw⟩, trivial, fun a c ha hc => ?_⟩
            simp at hc
            subst hc
            rw [List.getLast?_cons_cons] at ha
            intro q
            have : a = x := by omega
            subst this
            exact el ha
          rw [red_of hr, core_is (p := [x]) (b := y :: r) (by rw [inv_cons]; simp [inv]) h2]
          exact Rot.refl _
theorem core_conj : ∀ (o w : List Int), Rot (core (red w)) (core (red (o ++ w ++ inv o)))
  | [], w => by rw [inv_nil, List.append_nil, List.nil_append]; exact Rot.refl _
  | x :: o, w => by
    have e : red (x :: o ++ w ++ inv (x :: o)) = red (x :: (red (o ++ w ++ inv o) ++ [-x])) := by
      have e1 : x :: o ++ w ++ inv (x :: o) = [x] ++ (o ++ w ++ inv o) ++ [-x] := by rw [inv_cons]; simp
      have e2 : x :: (red (o ++ w ++ inv o) ++ [-x]) = [x] ++ red (o ++ w ++ inv o) ++ [-x] := by simp
      rw [e1, e2]
      exact red_congr _ _ (red_red _).symm
    rw [e]
    exact (core_conj o w).trans (rot1 x (rd_red _))
theorem rep_head {b : List Int} (n : Nat) : (rep (n + 1) b).head? = b.head? := by
  rw [rep_succ]
  cases b with
  | nil => rw [rep_nil]; rfl
  | cons x b => rfl
theorem rd_rep {b : List Int} (h : Rd b) (hc : Cyc b) (h0 : ∀ x ∈ b, x ≠ 0) : ∀ n, Rd (rep n b)
  | 0 => trivial
  | n + 1 => by
    rw [rep_succ]
    refine rd_append.mpr ⟨h, rd_rep h hc h0 n, fun x y hx hy => ?_⟩
    cases n with
    | zero => simp [rep] at hy
    | succ n =>
      rw [rep_head] at hy
      cases b with
      | nil => simp at hx
      | cons z b =>
        simp at hy
        subst hy
        cases b with
        | nil =>
          simp at hx
          subst hx
          have := h0 z (by simp)
          omega
        | cons v b =>
          have := hc z x (by simp) rfl hx
          omega
theorem rep_last {b : List Int} : ∀ (n : Nat), (rep (n + 1) b).getLast? = b.getLast?
  | 0 => by simp [rep]
  | n + 1 => by
    rw [rep_succ, List.getLast?_append, rep_last n]
    cases b with
    | nil => rfl
    | cons x b => simp
theorem rd_power {p b : List Int} (hr : Rd (p ++ b ++ inv p)) (hc : Cyc b) (h0 : ∀ x ∈ b, x ≠ 0) (hb : b ≠ []) (n : Nat) : Rd (p ++ rep (n + 1) b ++ inv p) := by
  have h1 := rd_append.mp hr
  have h2 := rd_append.mp h1.1
  have hn : rep (n + 1) b ≠ [] := by
    rw [rep_succ]; intro z
    exact hb (List.append_eq_nil_iff.mp z).1
  refine rd_append.mpr ⟨rd_append.mpr ⟨h2.1, rd_rep h2.2.1 hc h0 _, fun x y hx hy => ?_⟩, h1.2.1, fun x y hx hy => ?_⟩
  · rw [rep_head] at hy
    exact h2.2.2 x y hx hy
  · refine h1.2.2 x y ?_ hy
    rw [List.getLast?_append] at hx ⊢
    rw [rep_last] at hx
    exact hx
/-- the shortened power -/
theorem red_power {l : List Int} (h0 : ∀ x ∈ l, x ≠ 0) (n : Nat) : ∃ p, red l = p ++ core (red l) ++ inv p ∧ red (rep (n + 1) l) = p ++ rep (n + 1) (core (red l)) ++ inv p := by
  obtain ⟨p, h1, h2⟩ := core_spec (red l)
  refine ⟨p, h1, ?_⟩
  have h3 : red (rep (n + 1) l) = red (rep (n + 1) (p ++ core (red l) ++ inv p)) := red_rep (by rw [← h1, red_red]) _
  rw [h3, red_rep_conj]
  by_cases hb : core (red l) = []
  · rw [hb] at h1 ⊢
    rw [rep_nil]
    have : red l = [] := by
      have e : red (red l) = [] := by
        rw [h1]
        have := red_inv_right p []
        rw [List.append_nil] at this
        rw [List.append_nil, this]; rfl
      rwa [red_red] at e
    rw [← h1, this]; rfl
  · exact red_of (rd_power (by rw [← h1]; exact rd_red l) h2 (fun x hx => h0 x (red_mem (core_mem hx))) hb n)
end WM
namespace WM
open TL L2
section
variable {α β S : Type}
theorem mFor_inv {f : α → S → (S → Prop) → Prop} (I : List α → S → Prop) : ∀ {xs : List α} {s : S} {K : S → Prop}, I xs s → (∀ x r s (K : S → Prop), I (x :: r) s → (∀ s', I r s' → K s') → f x s K) → (∀ s, I [] s → K s) → mFor xs f s K
  | [], s, K, h, _, hk => hk s h
  | x :: r, s, K, h, hs, hk => hs x r s _ h fun s' h' => mFor_inv I h' hs hk
/-- .. by the items' number -/
theorem mFor_n {f : α → S → (S → Prop) → Prop} (I : Nat → S → Prop) {xs : List α} {s : S} {K : S → Prop} (h0 : I 0 s) (hs : ∀ n x s (K : S → Prop), n < xs.length → x ∈ xs → I n s → (∀ s', I (n + 1) s' → K s') → f x s K) (hk : ∀ s, I xs.length s → K s) : mFor xs f s K := by
  refine mFor_inv (fun r s => r.length ≤ xs.length ∧ (∀ x ∈ r, x ∈ xs) ∧ I (xs.length - r.length) s) ⟨Nat.le_refl _, fun _ h => h, by rw [Nat.sub_self]; exact h0⟩ (fun x r s K ⟨h1, h2, h3⟩ hk => ?_) (fun s ⟨_, _, h⟩ => hk s h)
  simp at h1
  refine hs _ x s K (by simp; omega) (h2 x List.mem_cons_self) h3 fun s' h' => hk s' ⟨by omega, fun y hy => h2 y (List.mem_cons_of_mem _ hy), ?_⟩
  have : xs.length - (x :: r).length + 1 = xs.length - r.length := by simp; omega
  rw [← this]; exact h'
/-- .. the turn told as what the mirror asks -/
theorem mWhile_of {t : S → (Bool → S → Prop) → Prop} {f : S → (S → Prop) → Prop} (I : S → Prop) (μ : S → Nat) {s : S} {K : S → Prop} (h0 : I s) (h : ∀ s (N : S → Prop), I s → (∀ s2, I s2 → μ s2 < μ s → N s2) → t s fun b s1 => if b = true then f s1 N else K s1) : mWhile t f s K :=
  ⟨fun n s => I s ∧ μ s = n, ⟨_, h0, rfl⟩, fun n s ⟨h1, h2⟩ => h s _ h1 fun s2 q1 q2 => ⟨μ s2, by omega, q1, rfl⟩⟩
theorem mMap_det {f : α → (β → Prop) → Prop} (g : α → β) : ∀ {xs : List α} {K : List β → Prop}, (∀ x ∈ xs, ∀ K : β → Prop, K (g x) → f x K) → K (xs.map g) → mMap xs f K
  | [], K, _, h => h
  | x :: xs, K, hf, h => hf x List.mem_cons_self _ (mMap_det g (fun y hy => hf y (List.mem_cons_of_mem _ hy)) h)
theorem mMapIf_det {t : α → (Bool → Prop) → Prop} {f : α → (β → Prop) → Prop} (p : α → Bool) (g : α → β) : ∀ {xs : List α} {K : List β → Prop}, (∀ x ∈ xs, ∀ K : Bool → Prop, K (p x) → t x K) → (∀ x ∈ xs, p x = true → ∀ K : β → Prop, K (g x) → f x K) → K ((xs.filter p).map g) → mMapIf xs t f K
  | [], K, _, _, h => h
  | x :: xs, K, ht, hf, h => by
    refine ht x List.mem_cons_self _ ?_
    by_cases e : p x = true
    · rw [if_pos e]
      refine hf x List.mem_cons_self e _ (mMapIf_det p g (fun y hy => ht y (List.mem_cons_of_mem _ hy)) (fun y hy => hf y (List.mem_cons_of_mem _ hy)) ?_)
      rw [List.filter_cons_of_pos e] at h
      exact h
    · rw [if_neg e]
      refine mMapIf_det p g (fun y hy => ht y (List.mem_cons_of_mem _ hy)) (fun y hy => hf y (List.mem_cons_of_mem _ hy)) ?_
      rw [List.filter_cons_of_neg e] at h
      exact h
theorem rangeL_mem {lo hi i : Int} : i ∈ rangeL lo hi ↔ lo ≤ i ∧ i < hi := by
  unfold rangeL
  simp only [List.mem_map, List.mem_range]
  constructor
  · rintro ⟨n, h, rfl⟩; omega
  · rintro ⟨h1, h2⟩; exact ⟨(i - lo).toNat, by omega, by omega⟩
theorem mIf_of {b : Bool} {f g : (S → Prop) → Prop} {k : S → Prop} (P : S → Prop) (h1 : b = true → ∀ K : S → Prop, (∀ s, P s → K s) → f K) (h2 : b = false → ∀ K : S → Prop, (∀ s, P s → K s) → g K) (hk : ∀ s, P s → k s) : mIf b f g k := by
  unfold mIf
  cases b with
  | true => exact h1 rfl _ hk
  | false => exact h2 rfl _ hk
/-! places -/
theorem pyAt_nat {xs : List α} {i : Int} (h0 : 0 ≤ i) (h1 : i < xs.length) : pyAt xs i = xs[i.toNat]? := by
  unfold pyAt atI ixN
  rw [if_pos h0, if_pos h1]; rfl
theorem pyAt_get {xs : List α} {i : Int} (h0 : 0 ≤ i) (h1 : i < xs.length) : ∃ y, pyAt xs i = some y ∧ xs[i.toNat]? = some y := by
  rw [pyAt_nat h0 h1]
  exact ⟨xs[i.toNat]'(by omega), List.getElem?_eq_getElem (by omega), List.getElem?_eq_getElem (by omega)⟩
theorem pyAt_last {xs : List α} : pyAt xs (-(1 : Int)) = xs.getLast? := by
  unfold pyAt atI ixN
  rw [if_neg (by omega), List.getLast?_eq_getElem?]
  cases xs with
  | nil => rfl
  | cons x xs =>
    rw [if_pos (by simp; omega)]
    show (x :: xs)[((-(1:Int)) + ((x :: xs).length : Int)).toNat]? = _
    congr 1
    simp
    omega
theorem pyAt_zero {xs : List α} : pyAt xs 0 = xs.head? := by
  cases xs with
  | nil => rfl
  | cons x xs => rw [pyAt_nat (by omega) (by simp)]; rfl
theorem pyCut_take {xs : List α} {i : Int} (h0 : 0 ≤ i) : pyCut xs none (some i) = xs.take i.toNat := by
  unfold pyCut
  rw [HT.sIx_none]
  have : HT.sIx xs.length xs.length (some i) = min i.toNat xs.length := by
    have := HT.sIx_nat xs.length xs.length i.toNat
    rwa [Int.toNat_of_nonneg h0] at this
  rw [this, List.drop_zero, Nat.sub_zero]
  by_cases h : i.toNat ≤ xs.length
  · rw [Nat.min_eq_left h]
  · rw [Nat.min_eq_right (by omega), List.take_of_length_le (Nat.le_refl _), List.take_of_length_le (by omega)]
theorem pyCut_drop {xs : List α} {i : Int} (h0 : 0 ≤ i) : pyCut xs (some i) none = xs.drop i.toNat := by
  unfold pyCut
  rw [HT.sIx_none]
  have : HT.sIx xs.length 0 (some i) = min i.toNat xs.length := by
    have := HT.sIx_nat xs.length 0 i.toNat
    rwa [Int.toNat_of_nonneg h0] at this
  rw [this]
  by_cases h : i.toNat ≤ xs.length
  · rw [Nat.min_eq_left h, List.take_of_length_le (by simp)]
  · rw [Nat.min_eq_right (by omega), Nat.sub_self, List.take_zero]
    exact (List.drop_of_length_le (by omega)).symm
theorem pyCut_mid {xs : List α} {i j : Int} (h0 : 0 ≤ i) (h1 : i ≤ j) (h2 : j ≤ xs.length) : pyCut xs (some i) (some j) = (xs.drop i.toNat).take (j.toNat - i.toNat) := by
  unfold pyCut
  have e1 : HT.sIx xs.length 0 (some i) = min i.toNat xs.length := by
    have := HT.sIx_nat xs.length 0 i.toNat
    rwa [Int.toNat_of_nonneg h0] at this
  have e2 : HT.sIx xs.length xs.length (some j) = min j.toNat xs.length := by
    have := HT.sIx_nat xs.length xs.length j.toNat
    rwa [Int.toNat_of_nonneg (by omega)] at this
  rw [e1, e2, Nat.min_eq_left (by omega), Nat.min_eq_left (by omega)]
/-- l[1:-1] -/
theorem pyCut_ends {xs : List α} (h : 1 < xs.length) : pyCut xs (some (1 : Int)) (some (-(1 : Int))) = xs.tail.dropLast := by
  unfold pyCut
  have e1 : HT.sIx xs.length 0 (some (1 : Int)) = 1 := by
    have := HT.sIx_nat xs.length 0 1
    rw [Nat.min_eq_left (by omega)] at this
    exact this
  have e2 : HT.sIx xs.length xs.length (some (-(1 : Int))) = xs.length - 1 := by
    show (if (-(1 : Int)) < 0 then (-(1 : Int) + (xs.length : Int)).toNat else min (-(1 : Int)).toNat xs.length) = _
    rw [if_pos (by omega)]
    omega
  rw [e1, e2, List.drop_one, List.dropLast_eq_take, List.length_tail]
end
/-! the jar -/
def JOk (n : Nat) (t : Jar) : Prop := 0 ≤ t.2.1 ∧ t.2.1 ≤ n
theorem JOk.mono {n m : Nat} {t : Jar} (h : JOk n t) (hm : n ≤ m) : JOk m t := ⟨h.1, by have := h.2; omega⟩
end WM
namespace WM
open PySem TL
/-- the order of tuples of whole numbers -/
def ltL : List Int → List Int → Bool
  | [], [] => false
  | [], _ :: _ => true
  | _ :: _, [] => false
  | x :: a, y :: b => if x = y then ltL a b else decide (x < y)
theorem ltL_data : ∀ a b : List Int, PySem.W.dataLt (datT a) (datT b) = ltL a b := by
  have go : ∀ a b : List Int, PyProof.Rows.lexLt PyProof.Rows.itemOrd (PySem.W.keyToksAll (a.map PyData.int)) (PySem.W.keyToksAll (b.map PyData.int)) = ltL a b := by
    intro a
    induction a with
    | nil =>
      intro b
      cases b with
      | nil => rfl
      | cons y b => rfl
    | cons x a ih =>
      intro b
      cases b with
      | nil => rfl
      | cons y b =>
        show PyProof.Rows.lexLt PyProof.Rows.itemOrd (Sum.inl 1 :: ([Sum.inl x] ++ _)) (Sum.inl 1 :: ([Sum.inl y] ++ _)) = _
        have e1 := PySem.W.lex_pre [Sum.inl 1] ([Sum.inl x] ++ PySem.W.keyToksAll (a.map PyData.int)) ([Sum.inl y] ++ PySem.W.keyToksAll (b.map PyData.int))
        refine e1.trans ?_
        by_cases h : x = y
        · subst h
          rw [PySem.W.lex_pre, ih]
          simp [ltL]
        · have hne : (Sum.inl x : Int ⊕ List Nat) ≠ Sum.inl y := fun e => h (Sum.inl.inj e)
          have e2 := PySem.W.lex_atom hne (PySem.W.keyToksAll (a.map PyData.int)) (PySem.W.keyToksAll (b.map PyData.int))
          refine e2.trans ?_
          rw [show ltL (x :: a) (y :: b) = decide (x < y) from if_neg h]
          exact (PyProof.Rows.lex_diff (O := PyProof.Rows.itemOrd) hne).trans rfl
  intro a b
  exact go a b
theorem ltL_irrefl : ∀ a : List Int, ltL a a = false
  | [] => rfl
  | x :: a => by simp [ltL, ltL_irrefl a]
theorem ltL_trans : ∀ a b c : List Int, ltL a b = true → ltL b c = true → ltL a c = true
  | [], [], c, h, _ => by simp [ltL] at h
  | [], _ :: _, [], _, h => by simp [ltL] at h
  | [], _ :: _, _ :: _, _, _ => rfl
  | _ :: _, [], _, h, _ => by simp [ltL] at h
  | _ :: _, _ :: _, [], _, h => by simp [ltL] at h
  | x :: a, y :: b, z :: c, h1, h2 => by
    simp only [ltL] at *
    by_cases e1 : x = y
    · subst e1
      rw [if_pos rfl] at h1
      by_cases e2 : x = z
      · rw [if_pos e2] at h2 ⊢
        exact ltL_trans a b c h1 h2
      · rw [if_neg e2] at h2 ⊢
        exact h2
    · rw [if_neg e1] at h1
      have h1 := of_decide_eq_true h1
      by_cases e2 : y = z
      · subst e2
        rw [if_neg e1]
        exact decide_eq_true h1
      · rw [if_neg e2] at h2
        have h2 := of_decide_eq_true h2
        rw [if_neg (by omega)]
        exact decide_eq_true (by omega)
theorem ltL_conn : ∀ a b : List Int, ltL a b = false → ltL b a = false → a = b
  | [], [], _, _ => rfl
  | [], _ :: _, h, _ => by simp [ltL] at h
  | _ :: _, [], _, h => by simp [ltL] at h
  | x :: a, y :: b, h1, h2 => by
    simp only [ltL] at *
    by_cases e : x = y
    · subst e
      rw [if_pos rfl] at h1 h2
      rw [ltL_conn a b h1 h2]
    · rw [if_neg e] at h1
      rw [if_neg (fun q => e q.symm)] at h2
      have h1 := of_decide_eq_false h1
      have h2 := of_decide_eq_false h2
      omega
theorem least_le {xs : List (List Int)} {m : List Int} (h : leastD datT xs = some m) : ∀ y ∈ xs, ltL y m = false := by
  cases xs with
  | nil => cases h
  | cons x xs =>
    have go : ∀ (l : List (List Int)) (a : List Int) (P : List Int → Prop), (∀ y, P y → ltL y a = false) → P a → ∀ y, (P y ∨ y ∈ l) → ltL y (l.foldl (fun a y => if PySem.W.dataLt (datT y) (datT a) then y else a) a) = false := by
      intro l
      induction l with
      | nil =>
        intro a P h _ y hy
        rcases hy with hy | hy
        · exact h y hy
        · cases hy
      | cons z l ih =>
        intro a P h ha y hy
        rw [List.foldl_cons]
        rw [ltL_data]
        by_cases e : ltL z a = true
        · rw [if_pos e]
          refine ih z (fun y => P y ∨ y = z) (fun y hy => ?_) (.inr rfl) y ?_
          · rcases hy with hy | hy
            · cases q : ltL y z with
              | false => rfl
              | true =>
                have := ltL_trans y z a q e
                rw [h y hy] at this
                cases this
            · subst hy; exact ltL_irrefl _
          · rcases hy with hy | hy
            · exact .inl (.inl hy)
            · rcases List.mem_cons.mp hy with hy | hy
              · exact .inl (.inr hy)
              · exact .inr hy
        · rw [if_neg e]
          have e : ltL z a = false := by simpa using e
          refine ih a (fun y => P y ∨ y = z) (fun y hy => ?_) (.inl ha) y ?_
          · rcases hy with hy | hy
            · exact h y hy
            · subst hy; exact e
          · rcases hy with hy | hy
            · exact .inl (.inl hy)
            · rcases List.mem_cons.mp hy with hy | hy
              · exact .inl (.inr hy)
              · exact .inr hy
    have hm : xs.foldl (fun a y => if PySem.W.dataLt (datT y) (datT a) then y else a) x = m := Option.some.inj h
    intro y hy
    rw [← hm]
    refine go xs x (fun y => y = x) (fun y e => by rw [e]; exact ltL_irrefl _) rfl y ?_
    rcases List.mem_cons.mp hy with hy | hy
    · exact .inl hy
    · exact .inr hy
theorem least_same {xs ys : List (List Int)} (h : ∀ z, z ∈ xs ↔ z ∈ ys) : leastD datT xs = leastD datT ys := by
  cases xs with
  | nil =>
    cases ys with
    | nil => rfl
    | cons y ys => exact absurd ((h y).mpr List.mem_cons_self) (by simp)
  | cons x xs =>
    cases ys with
    | nil => exact absurd ((h x).mp List.mem_cons_self) (by simp)
    | cons y ys =>
      obtain ⟨m, hm⟩ : ∃ m, leastD datT (x :: xs) = some m := ⟨_, rfl⟩
      obtain ⟨n, hn⟩ : ∃ n, leastD datT (y :: ys) = some n := ⟨_, rfl⟩
      rw [hm, hn]
      congr 1
      exact ltL_conn _ _ (least_le hn _ ((h _).mp (leastD_mem hm))) (least_le hm _ ((h _).mpr (leastD_mem hn)))
/-! rotations -/
def rot (k : Nat) (l : List Int) : List Int := l.drop k ++ l.take k
theorem rot_len (k : Nat) (l : List Int) : (rot k l).length = l.length := by
  unfold rot
  rw [List.length_append, List.length_drop, List.length_take]; omega
theorem rot_rot (k : Nat) (l : List Int) : Rot l (rot k l) := ⟨l.take k, l.drop k, (List.take_append_drop _ _).symm, rfl⟩
theorem Rot.sym {a b : List Int} (h : Rot a b) : Rot b a := by
  obtain ⟨u, v, rfl, rfl⟩ := h
  exact ⟨v, u, rfl, rfl⟩
theorem Rot.len {a b : List Int} (h : Rot a b) : a.length = b.length := by
  obtain ⟨u, v, rfl, rfl⟩ := h
  rw [List.length_append, List.length_append, Nat.add_comm]
theorem Rot.ex {a b : List Int} (h : Rot a b) : ∃ k, k < max 1 a.length ∧ rot k a = b := by
  obtain ⟨u, v, rfl, rfl⟩ := h
  by_cases hv : v = []
  · subst hv
    exact ⟨0, by omega, by simp [rot]⟩
  · have := List.length_pos_iff.mpr hv
    exact ⟨u.length, by rw [List.length_append]; omega, by simp [rot]⟩
def forms (l : List Int) : List (List Int) := (List.range (max 1 l.length)).map fun k => rot k l
theorem forms_mem {l m : List Int} : m ∈ forms l ↔ Rot l m := by
  unfold forms
  rw [List.mem_map]
  constructor
  · rintro ⟨k, _, rfl⟩; exact rot_rot k l
  · intro h
    obtain ⟨k, h1, h2⟩ := h.ex
    exact ⟨k, List.mem_range.mpr h1, h2⟩
theorem least_rot {a b : List Int} (h : Rot a b) : leastD datT (forms a) = leastD datT (forms b) :=
  least_same fun z => by
    rw [forms_mem, forms_mem]
    exact ⟨fun q => h.sym.trans q, fun q => h.trans q⟩
theorem rot_mem {k : Nat} {l : List Int} {x : Int} (h : x ∈ rot k l) : x ∈ l := by
  unfold rot at h
  rcases List.mem_append.mp h with h | h
  · exact List.mem_of_mem_drop h
  · exact List.mem_of_mem_take h
theorem rot_one {k : Nat} {l : List Int} (h : k < l.length) : (rot k l).drop 1 ++ (rot k l).take 1 = rot (k + 1) l := by
  unfold rot
  have e : l.drop k = l[k] :: l.drop (k + 1) := (List.getElem_cons_drop h).symm
  have e2 : l.take (k + 1) = l.take k ++ [l[k]] := by rw [List.take_succ_eq_append_getElem h]
  rw [e, e2]
  simp only [List.cons_append, List.drop_succ_cons, List.drop_zero, List.take_succ_cons, List.take_zero, List.append_assoc]
end WM
namespace G
open PySem L2 TL WM
theorem big3 {m a c1 c2 c3 : Int} (h1 : 0 ≤ m) (h2 : m < 2 ^ 31) (h3 : 0 ≤ a) (h4 : a ≤ 2 ^ 20) (hc1 : 0 ≤ c1 ∧ c1 ≤ 2 ^ 17) (hc2 : 0 ≤ c2 ∧ c2 ≤ 2 ^ 17) (hc3 : 0 ≤ c3 ∧ c3 ≤ 2 ^ 17) : (m * (2 * a + c1) + c2 * a * a + c3).natAbs < 2 ^ 64 := by
  have e1 : m * (2 * a + c1) ≤ 2 ^ 31 * (2 * 2 ^ 20 + 2 ^ 17) := Int.mul_le_mul (by omega) (by omega) (by omega) (by omega)
  have e2 : 0 ≤ m * (2 * a + c1) := Int.mul_nonneg h1 (by omega)
  have e3 : c2 * a ≤ 2 ^ 17 * 2 ^ 20 := Int.mul_le_mul (by omega) (by omega) (by omega) (by omega)
  have e4 : 0 ≤ c2 * a := Int.mul_nonneg (by omega) (by omega)
  have e5 : c2 * a * a ≤ 2 ^ 17 * 2 ^ 20 * 2 ^ 20 := Int.mul_le_mul e3 (by omega) (by omega) (by omega)
  have e6 : 0 ≤ c2 * a * a := Int.mul_nonneg e4 (by omega)
  omega
theorem draw_ok {many : Int} {t : Jar} {n : Nat} {Kf : Int → Jar → Prop} (h0 : 0 < many) (h1 : many < 1073741824) (hn : n < 1048576) (J : JOk n t) (k : ∀ x t', 0 ≤ x → x < many → JOk (n + 1) t' → Kf x t') : m_l_draw many t Kf := by
  obtain ⟨cells, a, rest⟩ := t
  have ha : 0 ≤ a := J.1
  have hb : a ≤ n := J.2
  have nz : many ≠ 0 := by omega
  have f0 : ∀ x : Int, 0 ≤ x.fmod many := fun x => Int.fmod_nonneg_of_pos x h0
  have f1 : ∀ x : Int, x.fmod many < many := fun x => Int.fmod_lt_of_pos x h0
  have dv : ∀ x : Int, CDivN x many := fun x => ⟨nz, by omega⟩
  have fm : ∀ (x m : Int), 0 < m → 0 ≤ x.fmod m ∧ x.fmod m < m := fun x m hm => ⟨Int.fmod_nonneg_of_pos x hm, Int.fmod_lt_of_pos x hm⟩
  unfold m_l_draw
  dsimp only [mB]
  split
  · exact ⟨dv _, nz, k _ _ (f0 _) (f1 _) ⟨ha, by show a ≤ ((n + 1 : Nat) : Int); omega⟩⟩
  · refine ⟨.inl ⟨by omega, by omega⟩, by simp, ?_⟩
    have go : ∀ cell : Int, (fun (s17 : Jar × Int) =>
  (fun (K19 : Bool → Jar × Int → Prop) => (if (decide (a < (s17.1.1.length : Int))) = true then (CPow (10 : Int) (18 : Int) ∧ K19 (decide (((10 : Int) ^ (18 : Int).toNat) ≤ (s17.2.natAbs : Int))) (s17.1, s17.2)) else K19 false (s17.1, s17.2))) (fun b20 s21 => (if b20 = true then (CPow (10 : Int) (18 : Int) ∧ (CMul (2 : Int) ((s21.2.natAbs : Int) - ((10 : Int) ^ (18 : Int).toNat)) ∧ (fun (l_rest14 : Int) => (CDivN l_rest14 many ∧ (many ≠ 0 ∧ Kf (l_rest14.fmod many) (s21.1.1, s21.1.2.1, (l_rest14.fdiv many))))) (((2 : Int) * ((s21.2.natAbs : Int) - ((10 : Int) ^ (18 : Int).toNat))) + (if (decide (s21.2 < (0 : Int))) then 1 else 0)))) else
  ((2147483549 : Int) ≠ 0 ∧ (CMul (33317 : Int) a ∧ (CPow (((s21.2.fmod (2147483549 : Int)) + ((33317 : Int) * a)) + (6037 : Int)) (5 : Int) ∧ ((2147483587 : Int) ≠ 0 ∧ (fun (l_mixed15 : Int) => (CMul (2 : Int) a ∧ (CMul l_mixed15 (((2 : Int) * a) + (1831 : Int)) ∧ (CMul (51133 : Int) a ∧ (CMul ((51133 : Int) * a) a ∧ (CPow (((l_mixed15 * (((2 : Int) * a) + (1831 : Int))) + (((51133 : Int) * a) * a)) + (44123 : Int)) (3 : Int) ∧ ((2147483629 : Int) ≠ 0 ∧ (fun (l_mixed16 : Int) => (CDivN l_mixed16 (64 : Int) ∧ (many ≠ 0 ∧ Kf ((l_mixed16.fdiv (64 : Int)).fmod many) s21.1))) (((((l_mixed15 * (((2 : Int) * a) + (1831 : Int))) + (((51133 : Int) * a) * a)) + (44123 : Int)) ^ (3 : Int).toNat).fmod (2147483629 : Int))))))))) (((((s21.2.fmod (2147483549 : Int)) + ((33317 : Int) * a)) + (6037 : Int)) ^ (5 : Int).toNat).fmod (2147483587 : Int))))))))) ((cells, a + 1, rest), cell) := fun cell => by
      have jn : JOk (n + 1) (cells, a + 1, rest) := ⟨by show 0 ≤ a + 1; omega, by show a + 1 ≤ ((n + 1 : Nat) : Int); omega⟩
      have p10 : CPow (10 : Int) (18 : Int) := ⟨by omega, by omega, by decide⟩
      have end1 : ∀ b : Bool, (if b = true then (CPow (10 : Int) (18 : Int) ∧ (CMul (2 : Int) ((cell.natAbs : Int) - ((10 : Int) ^ (18 : Int).toNat)) ∧ (fun (l_rest14 : Int) => (CDivN l_rest14 many ∧ (many ≠ 0 ∧ Kf (l_rest14.fmod many) (cells, a + 1, (l_rest14.fdiv many))))) (((2 : Int) * ((cell.natAbs : Int) - ((10 : Int) ^ (18 : Int).toNat))) + (if (decide (cell < (0 : Int))) then 1 else 0)))) else
  ((2147483549 : Int) ≠ 0 ∧ (CMul (33317 : Int) a ∧ (CPow (((cell.fmod (2147483549 : Int)) + ((33317 : Int) * a)) + (6037 : Int)) (5 : Int) ∧ ((2147483587 : Int) ≠ 0 ∧ (fun (l_mixed15 : Int) => (CMul (2 : Int) a ∧ (CMul l_mixed15 (((2 : Int) * a) + (1831 : Int)) ∧ (CMul (51133 : Int) a ∧ (CMul ((51133 : Int) * a) a ∧ (CPow (((l_mixed15 * (((2 : Int) * a) + (1831 : Int))) + (((51133 : Int) * a) * a)) + (44123 : Int)) (3 : Int) ∧ ((2147483629 : Int) ≠ 0 ∧ (fun (l_mixed16 : Int) => (CDivN l_mixed16 (64 : Int) ∧ (many ≠ 0 ∧ Kf ((l_mixed16.fdiv (64 : Int)).fmod many) (cells, a + 1, rest)))) (((((l_mixed15 * (((2 : Int) * a) + (1831 : Int))) + (((51133 : Int) * a) * a)) + (44123 : Int)) ^ (3 : Int).toNat).fmod (2147483629 : Int))))))))) (((((cell.fmod (2147483549 : Int)) + ((33317 : Int) * a)) + (6037 : Int)) ^ (5 : Int).toNat).fmod (2147483587 : Int))))))) := fun b => by
        cases b with
        | true =>
          rw [if_pos rfl]
          exact ⟨p10, .inl ⟨by omega, by omega⟩, dv _, nz, k _ _ (f0 _) (f1 _) ⟨by show 0 ≤ a + 1; omega, by show a + 1 ≤ ((n + 1 : Nat) : Int); omega⟩⟩
        | false =>
          rw [if_neg (by simp)]
          have q1 := fm cell 2147483549 (by omega)
          have q2 := fm (((cell.fmod 2147483549 + 33317 * a) + 6037) ^ (5 : Int).toNat) 2147483587 (by omega)
          exact ⟨by omega, .inl ⟨by omega, by omega⟩, ⟨by omega, by omega, by omega⟩, by omega, .inl ⟨by omega, by omega⟩, .inl ⟨by omega, by omega⟩, .inl ⟨by omega, by omega⟩, .inl ⟨by omega, by omega⟩,
            ⟨by omega, by omega, big3 q2.1 (by omega) ha (by omega) (by omega) (by omega) (by omega)⟩, by omega, ⟨by omega, by omega⟩, nz, k _ _ (f0 _) (f1 _) jn⟩
      dsimp only [mB]
      split
      · exact ⟨p10, end1 _⟩
      · exact end1 _
    unfold mIf
    split
    · rename_i hne
      have hl : 0 < (cells.length : Int) := by
        cases cells with
        | nil => simp at hne
        | cons x xs => simp
      have q := fm a cells.length hl
      obtain ⟨y, hy, _⟩ := pyAt_get (xs := cells) q.1 q.2
      exact ⟨by omega, y, hy, go y⟩
    · exact go _
end G
namespace G
open PySem L2 TL WM
theorem pick_ok {xs : List Int} {t : Jar} {n : Nat} {Kf : Int → Jar → Prop} (h0 : xs ≠ []) (h1 : xs.length < 1000000) (hn : n < 1048576) (J : JOk n t) (k : ∀ x t', x ∈ xs → JOk (n + 1) t' → Kf x t') : m_l_pick xs t Kf := by
  have hl : 0 < xs.length := List.length_pos_iff.mpr h0
  refine draw_ok (by omega) (by omega) hn J fun x t' q1 q2 j => ?_
  obtain ⟨y, e1, e2⟩ := pyAt_get (xs := xs) q1 q2
  exact ⟨y, e1, k y t' (List.mem_of_getElem? e2) j⟩
/-- letters of the kinds 1 .. k -/
def Ltk (k : Int) (l : List Int) : Prop := ∀ x ∈ l, x ≠ 0 ∧ -k ≤ x ∧ x ≤ k
theorem Ltk.app {k : Int} {a b : List Int} (h1 : Ltk k a) (h2 : Ltk k b) : Ltk k (a ++ b) := fun x hx => (List.mem_append.mp hx).elim (h1 x) (h2 x)
theorem Ltk.mono {k j : Int} {a : List Int} (h : Ltk k a) (e : k ≤ j) : Ltk j a := fun x hx => by have := h x hx; omega
theorem Ltk.sub {k : Int} {a b : List Int} (h : Ltk k b) (e : ∀ x ∈ a, x ∈ b) : Ltk k a := fun x hx => h x (e x hx)
theorem Ltk.inv {k : Int} {a : List Int} (h : Ltk k a) : Ltk k (inv a) := fun x hx => by
  unfold WM.inv at hx
  rw [List.mem_map] at hx
  obtain ⟨y, hy, rfl⟩ := hx
  have := h y (List.mem_reverse.mp hy)
  omega
theorem letters_ok {many kinds : Int} {t : Jar} {n : Nat} {Kf : List Int → Jar → Prop} (h0 : 0 ≤ many) (h1 : many ≤ 1000) (k0 : 0 < kinds) (k1 : kinds ≤ 26) (hn : n + 2 * many.toNat < 1048576) (J : JOk n t)
    (k : ∀ l t', l.length = many.toNat → Ltk kinds l → JOk (n + 2 * many.toNat) t' → Kf l t') : m_l_letters many kinds t Kf := by
  refine ⟨by simp, ⟨by omega, by omega⟩, ?_⟩
  have hl : (rangeL 0 many).length = many.toNat := by rw [rangeL_len]; simp
  refine mFor_n (fun i s => JOk (n + 2 * i) s.1 ∧ s.2.length = i ∧ Ltk kinds s.2) (by exact ⟨J, rfl, fun x hx => by simp at hx⟩) (fun i x s K hi _ ⟨j, hs, lt⟩ hk => ?_) (fun s ⟨j, hs, lt⟩ => ?_)
  · rw [hl] at hi
    refine draw_ok k0 (by omega) (by omega) j fun r t' r0 r1 j1 => ?_
    dsimp only [mB]
    refine draw_ok (by omega) (by omega) (by omega) j1 fun r2 t2 _ _ j2 => ?_
    have fin : ∀ v : Int, v ≠ 0 ∧ -kinds ≤ v ∧ v ≤ kinds → s.2.length ≤ 1000000 ∧ K (t2, s.2 ++ [v]) := fun v hv => ⟨by omega, hk _ ⟨j2.mono (by omega), by simp [hs], lt.app fun y hy => by
      rw [List.mem_singleton] at hy; subst hy; exact hv⟩⟩
    split
    · exact fin _ (by omega)
    · exact fin _ (by omega)
  · rw [hl] at j hs
    exact k s.2 s.1 hs lt j
theorem contrary_of_ok {l : List Int} {Kf : List Int → Prop} (h : l.length ≤ 1000000) (k : Kf (inv l)) : m_contrary_of l Kf :=
  ⟨by rw [List.length_reverse]; exact h, mMap_det (fun x => -x) (fun _ _ _ h => h) k⟩
/-! the spots where a letter stands behind its contrary -/
theorem rounded_ok {l : List Int} {Kf : List Int → Prop} (k : Kf (core l)) : m_rounded_of l Kf := by
  unfold m_rounded_of
  dsimp only [mB]
  refine mWhile_of (fun s : Int => ∃ p b, s = (p.length : Int) ∧ l = p ++ b ++ inv p) (fun s => l.length - s.toNat) (by exact ⟨[], l, rfl, by simp [inv]⟩) (fun s N ⟨p, b, es, hp⟩ hN => ?_)
  subst es
  have hlen : l.length = 2 * p.length + b.length := by
    have := congrArg List.length hp
    simp [inv_len] at this
    omega
  have fin : Cyc b → Kf (pyCut l (some (p.length : Int)) (some ((l.length : Int) - (p.length : Int)))) := fun hc => by
    rw [pyCut_mid (by omega) (by omega) (by omega)]
    have : (l.drop ((p.length : Int)).toNat).take (((l.length : Int) - (p.length : Int)).toNat - ((p.length : Int)).toNat) = b := by
      have t1 : ((p.length : Int)).toNat = p.length := by omega
      have t2 : ((l.length : Int) - (p.length : Int)).toNat - p.length = b.length := by omega
      rw [t1, t2, hp, List.append_assoc, List.drop_left, List.take_left]
    rw [this, ← core_is hp hc]
    exact k
  split
  · rename_i h1
    have h1 : (p.length : Int) < ((l.length : Int) - 1) - (p.length : Int) := by simpa using h1
    obtain ⟨x, m, y, rfl⟩ := ends_of (l := b) (by omega)
    have g1 : pyAt l (p.length : Int) = some x := by
      rw [pyAt_nat (by omega) (by omega)]
      have t1 : ((p.length : Int)).toNat = p.length := by omega
      rw [t1, hp, List.append_assoc, List.getElem?_append_right (by omega), Nat.sub_self]
      rfl
    have g2 : pyAt l (((l.length : Int) - 1) - (p.length : Int)) = some y := by
      rw [pyAt_nat (by omega) (by omega)]
      have t1 : (((l.length : Int) - 1) - (p.length : Int)).toNat = (p ++ x :: m).length := by
        simp at hlen ⊢
        omega
      have e : l = (p ++ x :: m) ++ (y :: inv p) := by rw [hp]; simp
      rw [t1]
      conv => lhs; rw [e]
      rw [List.getElem?_append_right (by omega), Nat.sub_self]
      rfl
    refine ⟨x, g1, y, g2, ?_⟩
    dsimp only [mB]
    split
    · rename_i e
      have e : x = -y := by simpa using e
      refine hN _ ⟨p ++ [x], m, by simp, ?_⟩ ?_
      · rw [hp, inv_app, e]
        simp [inv]
      · simp at hlen
        omega
    · rename_i e
      have e : ¬ x = -y := by simpa using e
      exact fin fun a b _ ha hb => by
        rw [head_ends] at ha
        rw [last_ends] at hb
        cases ha; cases hb
        exact e
  · rename_i h1
    have h1 : ¬ (p.length : Int) < ((l.length : Int) - 1) - (p.length : Int) := by simpa using h1
    dsimp only [mB]
    rw [if_neg (by simp)]
    exact fin fun a b h => by omega
end G
namespace G
open PySem L2 TL WM
theorem up_len : ∀ {l : List Int} {lo hi : Int}, l.Pairwise (· < ·) → (∀ x ∈ l, lo ≤ x ∧ x ≤ hi) → (l.length : Int) ≤ max 0 (hi - lo + 1)
  | [], lo, hi, _, _ => by simp; omega
  | x :: l, lo, hi, h, hb => by
    have h1 := List.pairwise_cons.mp h
    have ih := up_len (lo := x + 1) (hi := hi) h1.2 fun y hy => ⟨by have := h1.1 y hy; omega, (hb y (List.mem_cons_of_mem _ hy)).2⟩
    have := hb x List.mem_cons_self
    simp only [List.length_cons]
    omega
theorem is_letter_ok {x : Int} {Kf : Bool → Prop} (h : x ≠ 0 ∧ -26 ≤ x ∧ x ≤ 26) (k : Kf true) : m_is_letter x Kf := by
  have e1 : decide (-(26 : Int) ≤ x) = true := decide_eq_true h.2.1
  have e2 : decide (x ≤ (26 : Int)) = true := decide_eq_true h.2.2
  have e3 : (!decide (x = (0 : Int))) = true := by rw [decide_eq_false h.1]; rfl
  unfold m_is_letter m_is_within m_is_integer
  simp only [mB, Bool.not_false, Bool.not_true, if_true, if_false, Bool.false_eq_true, e1, e2, e3]
  exact k
theorem are_letters_ok {l : List Int} {Kf : Bool → Prop} (h : Ltk 26 l) (hl : l.length ≤ 1000000) (k : Kf true) : m_are_letters l Kf := by
  unfold m_are_letters m_is_listed
  dsimp only [mB]
  rw [if_pos rfl]
  refine ⟨hl, mMap_det (fun _ => true) (fun x hx K hK => is_letter_ok (h x hx) hK) ?_⟩
  have : (l.map fun _ => true).all id = true := by simp
  rw [this]; exact k
theorem are_letters_v1_ok {l : List Int} {Kf : Bool → Prop} (h : Ltk 26 l) (hl : l.length ≤ 1000000) (k : Kf true) : m_are_letters_v1 l Kf := by
  unfold m_are_letters_v1 m_is_listed_v1
  dsimp only [mB]
  rw [if_pos rfl]
  refine ⟨hl, mMap_det (fun _ => true) (fun x hx K hK => is_letter_ok (h x hx) hK) ?_⟩
  have : (l.map fun _ => true).all id = true := by simp
  rw [this]; exact k
def rdB (l : List Int) : Bool := ((List.zip l (l.drop 1)).map fun z => !decide (z.1 = -z.2)).all id
theorem rdB_iff : ∀ (l : List Int), rdB l = true ↔ Rd l
  | [] => by simp [rdB, WM.Rd]
  | [x] => by simp [rdB, WM.Rd]
  | x :: y :: r => by
    have ih := rdB_iff (y :: r)
    show _ ↔ (x ≠ -y ∧ Rd (y :: r))
    rw [← ih]
    unfold rdB
    simp
theorem are_short_ok {l : List Int} {Kf : Bool → Prop} (hl : l.length ≤ 1000000) (k : Kf (rdB l)) : m_are_short l Kf := by
  unfold m_are_short
  rw [pyCut_drop (by omega)]
  refine ⟨by rw [List.length_zip]; omega, mMap_det _ (fun _ _ _ h => h) k⟩
def mkW (l : List Int) : D_Word := ⟨l, l.length, sortU (l.map fun x => (x.natAbs : Int)), rdB l, if rdB l = true then decide (core l = l) else false⟩
theorem kinds_few {l : List Int} (h : Ltk 26 l) : (sortU (l.map fun x => (x.natAbs : Int))).length < 64 := by
  have := up_len (lo := 1) (hi := 26) (sortU_up (l.map fun x => (x.natAbs : Int))) fun x hx => by
    rw [sortU_mem] at hx
    obtain ⟨y, hy, rfl⟩ := List.mem_map.mp hx
    have := h y hy
    omega
  omega
theorem need_few_ok {n : Int} {Kf : Unit → Prop} (h : n ≤ 500) (k : Kf ()) : m_need_few n Kf := by
  unfold m_need_few
  rw [if_neg (by simp; omega)]
  exact k
theorem init_ok {l : List Int} {Kf : D_Word → Prop} (h : Ltk 26 l) (hl : l.length ≤ 500) (k : Kf (mkW l)) : m_Word___init__ l Kf := by
  unfold m_Word___init__
  refine are_letters_ok h (by omega) ?_
  rw [if_neg (by simp)]
  refine need_few_ok (by omega) ?_
  dsimp only [mB]
  refine ⟨by omega, mMap_det (fun x : Int => (x.natAbs : Int)) (fun _ _ _ h => h) ⟨kinds_few h, are_short_ok (by omega) ?_⟩⟩
  unfold mkW at k
  split
  · rename_i e
    rw [if_pos e] at k
    exact rounded_ok k
  · rename_i e
    rw [if_neg e] at k
    exact k
theorem init_v1_ok {l : List Int} {Kf : D_Word → Prop} (h : Ltk 26 l) (hl : l.length ≤ 500) (k : Kf (mkW l)) : m_Word___init___v1 l Kf := by
  unfold m_Word___init___v1
  refine are_letters_v1_ok h (by omega) ?_
  rw [if_neg (by simp)]
  refine need_few_ok (by omega) ?_
  dsimp only [mB]
  refine ⟨by omega, mMap_det (fun x : Int => (x.natAbs : Int)) (fun _ _ _ h => h) ⟨kinds_few h, are_short_ok (by omega) ?_⟩⟩
  unfold mkW at k
  split
  · rename_i e
    rw [if_pos e] at k
    exact rounded_ok k
  · rename_i e
    rw [if_neg e] at k
    exact k
/-- one turn of the pile -/
theorem pile_step {s : List Int} {x : Int} {r l : List Int} (h1 : Rd s) (h2 : red (s ++ x :: r) = red l) :
    ((∃ v, s.getLast? = some v ∧ v = -x) → Rd s.dropLast ∧ red (s.dropLast ++ r) = red l) ∧ ((∀ v, s.getLast? = some v → v ≠ -x) → Rd (s ++ [x]) ∧ red (s ++ [x] ++ r) = red l) := by
  constructor
  · rintro ⟨v, hv, rfl⟩
    have hne : s ≠ [] := by intro z; subst z; cases hv
    have e : s = s.dropLast ++ [-x] := by
      have h5 : s.getLast hne = -x := by
        rw [List.getLast?_eq_some_getLast hne] at hv
        exact Option.some.inj hv
      conv => lhs; rw [← List.dropLast_concat_getLast hne, h5]
    rw [e] at h1 h2
    refine ⟨rd_left h1, ?_⟩
    have : s.dropLast ++ [-x] ++ x :: r = s.dropLast ++ (-x) :: -(-x) :: r := by simp
    rw [this, red_cancel] at h2
    exact h2
  · intro h
    refine ⟨rd_append.mpr ⟨h1, trivial, fun a b ha hb => ?_⟩, by rw [← h2]; simp⟩
    simp at hb
    subst hb
    exact h a ha
theorem shortened_ok {l : List Int} {Kf : List Int → Prop} (hl : l.length ≤ 100000) (k : Kf (red l)) : m_shortened_of l Kf := by
  unfold m_shortened_of
  refine ⟨by simp, ?_⟩
  refine mFor_inv (fun r s => Rd s ∧ red (s ++ r) = red l ∧ s.length + r.length ≤ l.length) (by exact ⟨trivial, rfl, by simp⟩) (fun x r s K ⟨h1, h2, h3⟩ hk => ?_) (fun s ⟨h1, h2, h3⟩ => ?_)
  · simp at h3
    have st := pile_step h1 h2
    have push : (∀ v, s.getLast? = some v → v ≠ -x) → s.length ≤ 1000000 ∧ K (s ++ [x]) := fun hv => ⟨by omega, hk _ ⟨(st.2 hv).1, (st.2 hv).2, by simp; omega⟩⟩
    dsimp only [mB]
    split
    · rename_i hne
      have hne : s ≠ [] := by
        intro z; subst z; simp at hne
      refine ⟨s.getLast hne, by rw [pyAt_last, List.getLast?_eq_some_getLast hne], ?_⟩
      unfold mIf
      split
      · rename_i e
        have e := of_decide_eq_true e
        have hg : s.getLast? = some (s.getLast hne) := List.getLast?_eq_some_getLast hne
        refine ⟨s.getLast hne, by rw [← List.getLast?_eq_getElem?, hg], hk _ ⟨(st.1 ⟨_, hg, e⟩).1, (st.1 ⟨_, hg, e⟩).2, by simp; omega⟩⟩
      · rename_i e
        have e : ¬ s.getLast hne = -x := fun z => e (decide_eq_true z)
        exact push fun v hv => by
          rw [List.getLast?_eq_some_getLast hne] at hv
          cases hv
          exact e
    · rename_i hne
      have hne : s = [] := by
        cases s with
        | nil => rfl
        | cons a b => simp at hne
      unfold mIf
      rw [if_neg (by simp)]
      exact push fun v hv => by rw [hne] at hv; cases hv
  · rw [List.append_nil] at h2
    rw [← red_of h1, h2]
    exact k
theorem core_le (l : List Int) : (core l).length ≤ l.length := by
  obtain ⟨k, h⟩ := core_len l
  omega
theorem W_round_ok {l : List Int} {Kf : D_Word → Prop} (h : Ltk 26 l) (hl : l.length ≤ 500) (k : Kf (mkW (core (red l)))) : m_Word_shortened_round (mkW l) Kf :=
  shortened_ok (by show l.length ≤ _; omega) (rounded_ok (init_v1_ok (h.sub fun x hx => red_mem (core_mem hx)) (by have := red_len l; have := core_le (red l); show (core (red l)).length ≤ 500; omega) k))
theorem W_contrary_ok {l : List Int} {Kf : D_Word → Prop} (h : Ltk 26 l) (hl : l.length ≤ 500) (k : Kf (mkW (inv l))) : m_Word_contrary (mkW l) Kf :=
  contrary_of_ok (by show l.length ≤ _; omega) (init_v1_ok h.inv (by rw [inv_len]; exact hl) k)
theorem W_then_ok {a b : List Int} {Kf : D_Word → Prop} (h : Ltk 26 a) (h' : Ltk 26 b) (hl : a.length + b.length ≤ 500) (k : Kf (mkW (a ++ b))) : m_Word_then (mkW a) (mkW b) Kf := by
  unfold m_Word_then m_need_word
  rw [if_neg (by simp)]
  exact ⟨by show a.length + b.length ≤ _; omega, init_v1_ok (h.app h') (by rw [List.length_append]; exact hl) k⟩
/-- the n-th power -/
theorem eqW_mk (a b : List Int) : eqW (mkW a) (mkW b) = decide (a = b) := rfl
end G
namespace G
open PySem L2 TL WM
theorem turned_letters_ok {l : List Int} {i : Int} {Kf : List Int → Prop} (h0 : 0 ≤ i) (hl : l.length ≤ 100000) (k : Kf (rot i.toNat l)) : m_turned_letters l i Kf := by
  unfold m_turned_letters
  rw [pyCut_drop h0, pyCut_take h0]
  exact ⟨by rw [List.length_drop, List.length_take]; omega, k⟩
def turnTo (a b : List Int) : Option Int := if a.length = b.length then (rangeL 0 (max (1 : Int) a.length)).find? (fun i => decide (rot i.toNat a = b)) else none
theorem turn_to_ok {a b : List Int} {Kf : Option Int → Prop} (hl : a.length ≤ 100000) (k : Kf (turnTo a b)) : m_turn_to (mkW a) (mkW b) Kf := by
  unfold m_turn_to m_need_word
  rw [if_neg (by simp), if_neg (by simp)]
  unfold turnTo at k
  by_cases e : a.length = b.length
  · rw [if_pos e] at k
    rw [if_neg (by show ¬ (!decide ((a.length : Int) = (b.length : Int))) = true; simp [e])]
    refine ⟨⟨by show _ ≤ max (1 : Int) (a.length : Int); omega, by show max (1 : Int) (a.length : Int) < _; omega⟩, ?_⟩
    refine mFor_inv (fun r (_ : Unit) => (∀ i ∈ r, 0 ≤ i) ∧ Kf (r.find? (fun i => decide (rot i.toNat a = b)))) ⟨fun i hi => (rangeL_mem.mp hi).1, k⟩ (fun i r _ K ⟨h1, h2⟩ hk => ?_) (fun _ ⟨_, h⟩ => h)
    refine turned_letters_ok (h1 i List.mem_cons_self) hl ?_
    show (if (decide (rot i.toNat a = b)) = true then Kf (some i) else K ())
    rw [List.find?_cons] at h2
    split
    · rename_i q
      rw [q] at h2
      exact h2
    · rename_i q
      have q : decide (rot i.toNat a = b) = false := by simpa using q
      rw [q] at h2
      exact hk () ⟨fun j hj => h1 j (List.mem_cons_of_mem _ hj), h2⟩
  · rw [if_neg e] at k
    rw [if_pos (by show (!decide ((a.length : Int) = (b.length : Int))) = true; simp; omega)]
    exact k
theorem turnTo_some {a b : List Int} : (turnTo a b).isSome = true ↔ Rot a b := by
  unfold turnTo
  constructor
  · intro h
    split at h
    · obtain ⟨i, hi⟩ := Option.isSome_iff_exists.mp h
      have := List.find?_some hi
      have := of_decide_eq_true this
      rw [← this]; exact rot_rot _ _
    · cases h
  · intro h
    rw [if_pos h.len, List.find?_isSome]
    obtain ⟨k, h1, h2⟩ := h.ex
    exact ⟨(k : Int), rangeL_mem.mpr ⟨by omega, by omega⟩, by simpa using h2⟩
theorem turnTo_none {a b : List Int} : (turnTo a b).isNone = (turnTo b a).isNone := by
  have h : (turnTo a b).isSome = (turnTo b a).isSome := by
    by_cases q : Rot a b
    · rw [turnTo_some.mpr q, turnTo_some.mpr q.sym]
    · have e1 : (turnTo a b).isSome = false := by
        cases z : (turnTo a b).isSome with
        | false => rfl
        | true => exact absurd (turnTo_some.mp z) q
      have e2 : (turnTo b a).isSome = false := by
        cases z : (turnTo b a).isSome with
        | false => rfl
        | true => exact absurd (turnTo_some.mp z).sym q
      rw [e1, e2]
  cases x : turnTo a b <;> cases y : turnTo b a <;> simp [x, y] at h ⊢
theorem need_number_ok {n : Int} {p : Str} {Kf : Unit → Prop} (k : Kf ()) : m_need_number n p () () Kf := by
  unfold m_need_number m_is_within_v1 m_is_integer
  simp only [mB, Bool.not_false, Bool.not_true, if_true, if_false, Bool.false_eq_true]
  exact k
theorem W_turned_ok {l : List Int} {n : Int} {Kf : D_Word → Prop} (h : Ltk 26 l) (hl : l.length ≤ 500) (k : Kf (mkW (rot (n.fmod l.length).toNat l))) : m_Word_turned (mkW l) n Kf := by
  unfold m_Word_turned
  refine need_number_ok ?_
  split
  · rename_i e
    have e : (l.length : Int) = 0 := of_decide_eq_true e
    have : l = [] := List.eq_nil_of_length_eq_zero (by omega)
    subst this
    have : rot ((n.fmod (([] : List Int).length : Int)).toNat) ([] : List Int) = [] := by simp [rot]
    rw [this] at k
    exact k
  · rename_i e
    have e : ¬ (l.length : Int) = 0 := fun z => e (decide_eq_true z)
    have q := Int.fmod_nonneg_of_pos n (show 0 < (l.length : Int) by omega)
    refine ⟨e, ?_⟩
    show (pyCut l (some (n.fmod (l.length : Int))) none).length + (pyCut l none (some (n.fmod (l.length : Int)))).length ≤ 1000000 ∧ m_Word___init___v1 (pyCut l (some (n.fmod (l.length : Int))) none ++ pyCut l none (some (n.fmod (l.length : Int)))) fun w => Kf w
    rw [pyCut_drop q, pyCut_take q]
    exact ⟨by rw [List.length_drop, List.length_take]; omega, init_v1_ok (h.sub fun x hx => rot_mem hx) (by have := rot_len (n.fmod l.length).toNat l; unfold rot at this; omega) k⟩
theorem forms_ok {l : List Int} {Kf : List (List Int) → Prop} (hl : l.length ≤ 100000) (k : Kf (forms l)) : m_l_forms l Kf := by
  unfold m_l_forms
  refine ⟨by simp, ⟨by omega, by omega⟩, ?_⟩
  have hr : (rangeL 0 ((l.length : Int) - 1)).length = l.length - 1 := by rw [rangeL_len]; omega
  refine mFor_n (fun i s => s = (List.range (i + 1)).map fun k => rot k l) (by simp [rot]) (fun i x s K hi _ hs hk => ?_) (fun s hs => ?_)
  · rw [hr] at hi
    have el : s.getLast? = some (rot i l) := by
      rw [hs, List.range_succ, List.map_append, List.getLast?_append]
      rfl
    have sl : s.length = i + 1 := by rw [hs]; simp
    refine ⟨rot i l, by rw [pyAt_last, el], rot i l, by rw [pyAt_last, el], ?_⟩
    rw [pyCut_drop (by omega), pyCut_take (by omega)]
    have hn := rot_len i l
    refine ⟨by rw [List.length_drop, List.length_take]; omega, by omega, hk _ ?_⟩
    rw [hs]
    have := rot_one (k := i) (l := l) (by omega)
    show _ ++ [(rot i l).drop (1 : Int).toNat ++ (rot i l).take (1 : Int).toNat] = _
    have t1 : (1 : Int).toNat = 1 := rfl
    rw [t1, this, List.range_succ (n := i + 1), List.map_append]
    rfl
  · rw [hr] at hs
    have : forms l = s := by
      rw [hs]
      unfold forms
      congr 2
      omega
    rw [← this]; exact k
theorem least_turned_ok {l m : List Int} {Kf : D_Word → Prop} (h : Ltk 26 l) (hl : l.length ≤ 500) (hm : leastD datT (forms l) = some m) (k : Kf (mkW m)) : m_least_turned (mkW l) Kf := by
  unfold m_least_turned m_need_word
  rw [if_neg (by simp)]
  have hmr : Rot l m := forms_mem.mp (leastD_mem hm)
  split
  · rename_i e
    have e : (l.length : Int) = 0 := of_decide_eq_true e
    have e1 : l = [] := List.eq_nil_of_length_eq_zero (by omega)
    have e2 : m = [] := List.eq_nil_of_length_eq_zero (by rw [← hmr.len, e1]; rfl)
    subst e1
    subst e2
    exact k
  · rename_i e
    have e : ¬ (l.length : Int) = 0 := fun z => e (decide_eq_true z)
    have hlen : (rangeL 0 (mkW l).length).length = l.length := by
      show (rangeL 0 (l.length : Int)).length = l.length
      rw [rangeL_len]; omega
    refine ⟨⟨by show _ ≤ (l.length : Int); omega, by show (l.length : Int) < _; omega⟩, by omega, mMap_det (fun i : Int => rot i.toNat l) (fun i hi K hK => turned_letters_ok (rangeL_mem.mp hi).1 (by show l.length ≤ _; omega) hK) ?_⟩
    have : (rangeL 0 (mkW l).length).map (fun i : Int => rot i.toNat l) = forms l := by
      show (rangeL 0 (l.length : Int)).map _ = _
      unfold rangeL forms
      rw [List.map_map]
      have : ((l.length : Int) - 0).toNat = max 1 l.length := by omega
      rw [this]
      congr 1
      funext i
      show rot (0 + (i : Int)).toNat l = rot i l
      congr 1
      omega
    rw [this]
    exact ⟨m, hm, init_v1_ok (h.sub fun x hx => by
      obtain ⟨u, v, rfl, rfl⟩ := hmr
      simp at hx ⊢
      rcases hx with hx | hx
      · exact .inr hx
      · exact .inl hx) (by rw [← hmr.len]; exact hl) k⟩
theorem least_ex (l : List Int) : ∃ m, leastD datT (forms l) = some m ∧ Rot l m := by
  obtain ⟨x, xs, e⟩ : ∃ x xs, forms l = x :: xs := by
    cases q : forms l with
    | nil =>
      have := forms_mem.mpr (Rot.refl l)
      rw [q] at this
      cases this
    | cons x xs => exact ⟨x, xs, rfl⟩
  refine ⟨_, by rw [e]; rfl, forms_mem.mp ?_⟩
  refine leastD_mem (d := datT) ?_
  rw [e]; rfl
end G
namespace G
open PySem L2 TL WM
theorem zip_map {α β : Type} (f : α → β) : ∀ xs : List α, xs.zip (xs.map f) = xs.map fun x => (x, f x)
  | [] => rfl
  | x :: xs => by simp [zip_map f xs]
theorem due_eq (a b : List Int) : ((enumL (forms a)).filter (fun x => decide (x.2 = b))).map (fun x => x.1) = (rangeL 0 (max (1 : Int) a.length)).filter (fun i => decide (rot i.toNat a = b)) := by
  have e : enumL (forms a) = (rangeL 0 (max (1 : Int) a.length)).map fun i => (i, rot i.toNat a) := by
    unfold enumL
    have h1 : (forms a).length = max 1 a.length := by unfold forms; simp
    have h2 : ((forms a).length : Int) = max (1 : Int) a.length := by rw [h1]; omega
    rw [h2]
    have h3 : forms a = (rangeL 0 (max (1 : Int) a.length)).map fun i => rot i.toNat a := by
      unfold forms rangeL
      rw [List.map_map]
      have : (max (1 : Int) (a.length : Int) - 0).toNat = max 1 a.length := by omega
      rw [this]
      congr 1
      funext i
      show rot i a = rot (0 + (i : Int)).toNat a
      congr 1
      omega
    rw [h3, zip_map]
  rw [e, List.filter_map, List.map_map]
  have : (fun x : Int × List Int => decide (x.2 = b)) ∘ (fun i : Int => (i, rot i.toNat a)) = fun i => decide (rot i.toNat a = b) := rfl
  rw [this]
  have : (fun x : Int × List Int => x.1) ∘ (fun i : Int => (i, rot i.toNat a)) = id := rfl
  rw [this, List.map_id]
theorem due_head (a b : List Int) : ((rangeL 0 (max (1 : Int) a.length)).filter (fun i => decide (rot i.toNat a = b))).head? = turnTo a b := by
  rw [List.head?_filter]
  unfold turnTo
  split
  · rfl
  · rename_i h
    rw [List.find?_eq_none]
    intro i _ hi
    have hi := of_decide_eq_true hi
    have := rot_len i.toNat a
    rw [hi] at this
    exact h this.symm
theorem pair_right_ok {a b : List Int} {Kf : Bool → Prop} (ha : Ltk 26 a) (hb : Ltk 26 b) (la : a.length ≤ 500) (lb : b.length ≤ 500) (k : Kf true) : m_l_pair_right a b Kf := by
  unfold m_l_pair_right
  refine init_ok ha la (init_ok hb lb ⟨by simp, ?_⟩)
  refine mFor_inv (fun r (_ : Unit) => ∀ p ∈ r, ∃ x y : List Int, p = (mkW x, mkW y, x, y, ()) ∧ x.length ≤ 500 ∧ Ltk 26 x ∧ y.length ≤ 500) (fun p hp => ?_) (fun p r _ K hI hk => ?_) (fun _ _ => ?_)
  · rcases List.mem_cons.mp hp with rfl | hp
    · exact ⟨a, b, rfl, la, ha, lb⟩
    · rcases List.mem_cons.mp hp with rfl | hp
      · exact ⟨b, a, rfl, lb, hb, la⟩
      · cases hp
  · obtain ⟨x, y, rfl, lx, hx, ly⟩ := hI p List.mem_cons_self
    dsimp only
    have hK := hk () fun q hq => hI q (List.mem_cons_of_mem _ hq)
    have lf : (forms x).length = max 1 x.length := by unfold forms; simp
    refine forms_ok (by omega) ⟨by unfold enumL; rw [List.length_zip, rangeL_len]; omega, ?_⟩
    refine mMapIf_det (fun z : Int × List Int => decide (z.2 = y)) (fun z => z.1) (fun _ _ _ h => h) (fun _ _ _ _ h => h) ?_
    rw [due_eq]
    refine turn_to_ok (by omega) ⟨by simp, ?_⟩
    have hd := due_head x y
    generalize (rangeL 0 (max (1 : Int) x.length)).filter (fun i => decide (rot i.toNat x = y)) = due at hd
    refine mIf_of (fun _ => True) (fun e K' hK' => ?_) (fun e K' hK' => ?_) (fun _ _ => hK)
    · have e := of_decide_eq_true e
      rw [e] at hd
      rw [← hd]
      rw [if_neg (by simp)]
      exact hK' () trivial
    · have e := of_decide_eq_false e
      cases due with
      | nil => exact absurd rfl e
      | cons v vs =>
        have hv : turnTo x y = some v := hd.symm
        refine mB_of (fun b _ => b = false) (fun K2 hK2 => ?_) (fun b _ hb' => by subst hb'; rw [if_neg (by simp)]; exact hK' () trivial)
        refine ⟨v, by rw [pyAt_zero]; rfl, ?_⟩
        rw [hv, if_neg (by simp), if_neg (by simp)]
        refine ⟨v, rfl, W_turned_ok hx lx ?_⟩
        have hr : rot (v.fmod x.length).toNat x = y := by
          unfold turnTo at hv
          split at hv
          · have h0 := List.find?_some hv
            have h1 : rot v.toNat x = y := of_decide_eq_true h0
            have h2 := rangeL_mem.mp (List.mem_of_find?_eq_some hv)
            by_cases hx0 : x.length = 0
            · have : x = [] := List.eq_nil_of_length_eq_zero hx0
              subst this
              rw [← h1]; simp [rot]
            · have : v.fmod x.length = v := Int.fmod_eq_of_lt (by omega) (by omega)
              rw [this]; exact h1
          · cases hv
        rw [hr, eqW_mk, if_neg (by simp)]
        refine turn_to_ok (by omega) (hK2 _ () ?_)
        rw [hv]; simp
  · refine turn_to_ok (by omega) (turn_to_ok (by omega) ?_)
    have : decide ((turnTo a b).isNone = (turnTo b a).isNone) = true := decide_eq_true turnTo_none
    rw [this]; exact k
theorem least_right_ok {l : List Int} {t : Jar} {n : Nat} {Kf : Bool → Jar → Prop} (h : Ltk 26 l) (hl : l.length ≤ 500) (hn : n + 3 < 1048576) (J : JOk n t) (k : ∀ t', JOk (n + 3) t' → Kf true t') : m_l_least_right l t Kf := by
  unfold m_l_least_right
  obtain ⟨m, hm, hr⟩ := least_ex l
  have hml : m.length ≤ 500 := by rw [← hr.len]; exact hl
  have hmt : Ltk 26 m := h.sub fun x hx => by
    obtain ⟨u, v, rfl, rfl⟩ := hr
    simp at hx ⊢
    rcases hx with hx | hx
    · exact .inr hx
    · exact .inl hx
  have hmm : leastD datT (forms m) = some m := by rw [← least_rot hr]; exact hm
  refine init_ok h hl (forms_ok (by omega) ⟨m, hm, least_turned_ok h hl hm ?_⟩)
  refine mB_of (fun b t' => b = false ∧ t' = t) (fun K hK => ?_) ?_
  · rw [if_neg (by simp), if_neg (by simp [mkW])]
    refine least_turned_ok hmt hml hmm ?_
    rw [eqW_mk, if_neg (by simp)]
    refine turn_to_ok (by omega) (hK _ _ ⟨?_, rfl⟩)
    have := turnTo_some.mpr hr
    cases q : turnTo l m with
    | none => rw [q] at this; cases this
    | some z => rfl
  rintro b t' ⟨rfl, rfl⟩
  rw [if_neg (by simp)]
  refine ⟨⟨by omega, by omega⟩, ?_⟩
  have h3 : (rangeL 0 3).length = 3 := by rw [rangeL_len]; rfl
  refine mFor_n (fun i s => JOk (n + i) s) J (fun i x s K hi _ j hk => ?_) (fun s j => ?_)
  · rw [h3] at hi
    refine draw_ok (by omega) (by omega) (by omega) j fun r t1 r0 r1 j1 => ?_
    dsimp only
    refine mB_of (fun b t' => b = false ∧ t' = t1) (fun K2 hK2 => ?_) ?_
    · refine W_turned_ok h hl ?_
      generalize ((r - 30).fmod (l.length : Int)).toNat = i
      have hri := rot_rot i l
      refine least_turned_ok (h.sub fun x hx => rot_mem hx) (by rw [rot_len]; exact hl) (by rw [← least_rot hri]; exact hm) ?_
      rw [eqW_mk, if_neg (by simp)]
      refine W_turned_ok h hl ?_
      refine turn_to_ok (by omega) (hK2 _ _ ⟨?_, rfl⟩)
      have := turnTo_some.mpr (rot_rot ((r - 30).fmod (l.length : Int)).toNat l)
      cases q : turnTo l (rot ((r - 30).fmod (l.length : Int)).toNat l) with
      | none => rw [q] at this; cases this
      | some z => rfl
    · rintro b t' ⟨rfl, rfl⟩
      rw [if_neg (by simp)]
      exact hk _ j1
  · rw [h3] at j
    have : decide ((mkW l).letters = l) = true := decide_eq_true rfl
    rw [this]
    exact k _ j
end G
namespace G
open PySem L2 TL WM
theorem moved_right_ok {l : List Int} {t : Jar} {n : Nat} {Kf : Bool → Jar → Prop} (h : Ltk 26 l) (hl : l.length ≤ 400) (hn : n + 20 < 1048576) (J : JOk n t) (k : ∀ t', JOk (n + 20) t' → Kf true t') : m_l_moved_right l t Kf := by
  unfold m_l_moved_right
  refine draw_ok (by omega) (by omega) (by omega) J fun r t1 r0 r1 j1 => ?_
  refine letters_ok r0 (by omega) (by omega) (by omega) (by omega) j1 fun o t2 ho lo j2 => ?_
  have ho : o.length ≤ 6 := by omega
  have lo := lo.mono (j := 26) (by omega)
  refine init_ok lo (by omega) (init_ok h (by omega) (W_then_ok lo h (by omega) (W_contrary_ok lo (by omega) (W_then_ok (lo.app h) lo.inv (by rw [List.length_append, inv_len]; omega) (W_round_ok ((lo.app h).app lo.inv) (by rw [List.length_append, List.length_append, inv_len]; omega) (W_round_ok h (by omega) ?_))))))
  have rt := core_conj o l
  have la := core_le (red l)
  have lb := red_len l
  have hc := (h.sub fun x hx => red_mem hx).sub (a := core (red l)) fun x hx => core_mem hx
  obtain ⟨m, hm, _⟩ := least_ex (core (red l))
  refine mB_of (fun b t' => b = true ∧ t' = t2) (fun K hK => ?_) ?_
  · refine turn_to_ok (by omega) ?_
    rw [if_pos (turnTo_some.mpr rt)]
    refine least_turned_ok (((lo.app h).app lo.inv).sub fun x hx => red_mem (core_mem hx)) (by rw [← rt.len]; omega) (by rw [← least_rot rt]; exact hm) ?_
    refine least_turned_ok hc (by omega) hm (hK _ _ ⟨?_, rfl⟩)
    rw [eqW_mk]; simp
  · rintro b t' ⟨rfl, rfl⟩
    exact k _ (j2.mono (by omega))
theorem mixed_ok {l : List Int} {t : Jar} {n : Nat} {kk : Int} {Kf : List Int → Jar → Prop} (h : Ltk kk l) (hl : l.length ≤ 1000) (hn : n + l.length < 1048576) (J : JOk n t) (k : ∀ l' t', l'.length = l.length → Ltk kk l' → JOk (n + l.length) t' → Kf l' t') : m_l_mixed l t Kf := by
  unfold m_l_mixed
  refine ⟨⟨by omega, by omega⟩, ?_⟩
  have hr : (rangeL 0 (l.length : Int)).length = l.length := by rw [rangeL_len]; omega
  refine mFor_n (fun i s => JOk (n + i) s.1 ∧ s.2.1.length + i = l.length ∧ Ltk kk s.2.1 ∧ s.2.2.length = i ∧ Ltk kk s.2.2) ⟨J, rfl, h, rfl, fun x hx => by simp at hx⟩ (fun i x s K hi _ ⟨j, h1, l1, h2, l2⟩ hk => ?_) (fun s ⟨j, h1, l1, h2, l2⟩ => ?_)
  · rw [hr] at hi
    refine draw_ok (by omega) (by omega) (by omega) j fun r t1 r0 r1 j1 => ?_
    have hb : r.toNat < s.2.1.length := by omega
    refine ⟨s.2.1[r.toNat], ⟨r0, r1, by omega, List.getElem?_eq_getElem hb⟩, by omega, hk _ ⟨j1, ?_, l1.sub fun x hx => List.mem_of_mem_eraseIdx hx, by simp [h2], l2.app fun x hx => ?_⟩⟩
    · show (s.2.1.eraseIdx r.toNat).length + (i + 1) = l.length
      rw [List.length_eraseIdx_of_lt hb]; omega
    · rw [List.mem_singleton] at hx
      subst hx
      exact l1 _ (List.getElem_mem hb)
  · rw [hr] at j h1 h2
    exact k _ _ h2 l2 j
theorem drawn_ok {t : Jar} {n : Nat} {Kf : List Int → Jar → Prop} (hn : n + 100 < 1048576) (J : JOk n t) (k : ∀ l t', l.length ≤ 24 → Ltk 3 l → JOk (n + 100) t' → Kf l t') : m_l_drawn t Kf := by
  unfold m_l_drawn
  refine draw_ok (by omega) (by omega) (by omega) J fun w t1 w0 w1 j1 => ?_
  refine draw_ok (by omega) (by omega) (by omega) j1 fun r t2 r0 r1 j2 => ?_
  dsimp only
  split
  · refine ⟨by simp, pick_ok (by simp) (by simp) (by omega) j2 fun c t3 hc j3 => ?_⟩
    have hc : 0 ≤ c ∧ c ≤ 24 := by
      simp only [List.mem_cons, List.not_mem_nil, or_false] at hc
      omega
    exact letters_ok hc.1 (by omega) (by omega) (by omega) (by omega) j3 fun l t4 hl lt j4 => k l t4 (by omega) (lt.mono (by omega)) (j4.mono (by omega))
  · refine draw_ok (by omega) (by omega) (by omega) j2 fun r2 t3 a0 a1 j3 => ?_
    refine letters_ok (by omega) (by omega) (by omega) (by omega) (by omega) j3 fun l t4 hl lt j4 => ?_
    refine draw_ok (by omega) (by omega) (by omega) j4 fun r3 t5 b0 b1 j5 => ?_
    obtain ⟨m, hm⟩ : ∃ m : Nat, 1 + r3 = (m : Int) := ⟨(1 + r3).toNat, by omega⟩
    have m1 : 1 ≤ m ∧ m ≤ 4 := by omega
    have hl : 1 ≤ l.length ∧ l.length ≤ 5 := by omega
    have hmul : m * l.length ≤ 4 * 5 := Nat.mul_le_mul m1.2 hl.2
    have hmul2 : 1 * 1 ≤ m * l.length := Nat.mul_le_mul m1.1 hl.1
    rw [hm]
    have er : pyRep l (m : Int) = rep m l := rfl
    have el : (rep m l).length = m * l.length := rep_len m l
    have lr : Ltk 3 (rep m l) := fun x hx => by
      unfold rep at hx
      obtain ⟨q, hq, hx⟩ := List.mem_flatten.mp hx
      rw [(List.mem_replicate.mp hq).2] at hx
      exact (lt.mono (by omega)) x hx
    rw [er]
    refine ⟨⟨by omega, by omega, by rw [Int.toNat_natCast, Nat.mul_comm]; omega⟩, ?_⟩
    generalize rep m l = q at el lr
    have j5 := j5.mono (m := n + 50) (by omega)
    refine mIf_of (fun s => JOk (n + 100) s.1 ∧ s.2.length ≤ 24 ∧ Ltk 3 s.2) (fun _ K hK => ?_) (fun _ K hK => hK _ ⟨j5.mono (by omega), by show q.length ≤ 24; omega, lr⟩) (fun s ⟨a, b, c⟩ => k _ _ b c a)
    refine draw_ok (by omega) (by omega) (by omega) j5 fun i t6 i0 i1 j6 => ?_
    obtain ⟨v, e1, e2⟩ := pyAt_get (xs := q) i0 i1
    rw [pyCut_take i0, pyCut_drop (by omega)]
    have lq1 : (q.take i.toNat).length ≤ q.length := by rw [List.length_take]; omega
    have ht : (i + 1).toNat = i.toNat + 1 := by omega
    have lq2 : (q.take i.toNat).length + 1 + (q.drop (i + 1).toNat).length = q.length := by rw [List.length_take, List.length_drop]; omega
    refine ⟨v, e1, by simp, by simp; omega, by simp; omega, ?_⟩
    have hv := lr v (List.mem_of_getElem? e2)
    refine hK _ ⟨j6.mono (by omega), ?_, ((lr.sub fun x hx => List.mem_of_mem_take hx).app fun x hx => ?_).app (lr.sub fun x hx => List.mem_of_mem_drop hx)⟩
    · show (q.take i.toNat ++ [-v] ++ q.drop (i + 1).toNat).length ≤ 24
      rw [List.length_append, List.length_append, List.length_singleton]; omega
    · rw [List.mem_singleton] at hx
      subst hx
      omega
end G
namespace G
open PySem L2 TL WM
theorem law_true {ns : List Int} (hl : ns.length ≤ 63) : m_law ns (fun r => r = true) := by
  unfold m_law m_l_jar
  rw [pyCut_take (by omega)]
  refine ⟨by rw [List.length_take]; omega, mMap_det id (fun _ _ _ h => h) ⟨⟨by omega, by omega⟩, ?_⟩⟩
  have h4 : (rangeL 0 4).length = 4 := by rw [rangeL_len]; rfl
  refine mFor_n (fun i s => JOk (1000 * i) s) (by exact ⟨by show (0 : Int) ≤ 0; omega, by show (0 : Int) ≤ _; omega⟩) (fun i x s K hi _ j0 hk => ?_) (fun s j => ?_)
  · rw [h4] at hi
    refine drawn_ok (by omega) j0 fun l t1 hl lt j1 => drawn_ok (by omega) j1 fun o t2 hlo lo j2 => ?_
    refine draw_ok (by omega) (by omega) (by omega) j2 fun by_ t3 b0 b1 j3 => forms_ok (by omega) ?_
    have hm : 0 < max (1 : Int) (l.length : Int) := by omega
    refine ⟨by omega, ?_⟩
    have q0 := Int.fmod_nonneg_of_pos by_ hm
    have q1 := Int.fmod_lt_of_pos by_ hm
    have lf : (forms l).length = max 1 l.length := by unfold forms; simp
    obtain ⟨v, e1, e2⟩ := pyAt_get (xs := forms l) q0 (by omega)
    refine ⟨v, e1, ?_⟩
    have rv : Rot l v := forms_mem.mp (List.mem_of_getElem? e2)
    have lv : v.length = l.length := rv.len.symm
    have tv : Ltk 3 v := lt.sub fun x hx => by
      obtain ⟨u, w, rfl, rfl⟩ := rv
      simp at hx ⊢
      rcases hx with hx | hx
      · exact .inr hx
      · exact .inl hx
    refine mixed_ok lt (by omega) (by omega) j3 fun mx t4 lmx tmx j4 => ?_
    rw [pyCut_take (by omega)]
    have l1 : (l.take (1 : Int).toNat).length ≤ 1 := by rw [List.length_take]; show min 1 _ ≤ 1; omega
    refine ⟨by omega, by omega, mMap_det (fun x => -x) (fun _ _ _ h => h) ⟨by simp, ?_⟩⟩
    have j4 := j4.mono (m := 1000 * i + 400) (by omega)
    have t26 : ∀ {a : List Int}, Ltk 3 a → Ltk 26 a := fun h => h.mono (by omega)
    refine mFor_inv (fun r (s : Jar) => JOk (1000 * i + 400) s ∧ ∀ a ∈ r, a.length ≤ 100 ∧ Ltk 26 a) ⟨j4, ?_⟩ (fun a r s K2 ⟨j, hI⟩ hk2 => ?_) (fun s ⟨j, _⟩ => ?_)
    · intro a ha
      simp only [List.mem_cons, List.not_mem_nil, or_false] at ha
      rcases ha with rfl | rfl | rfl | rfl | rfl | rfl
      · exact ⟨by omega, t26 tv⟩
      · exact ⟨by omega, t26 lo⟩
      · exact ⟨by omega, t26 tmx⟩
      · exact ⟨by rw [List.length_reverse]; omega, t26 (lt.sub fun x hx => List.mem_reverse.mp hx)⟩
      · exact ⟨by rw [List.length_append]; omega, t26 (tv.app (lt.sub fun x hx => List.mem_of_mem_take hx))⟩
      · refine ⟨by rw [List.length_map]; omega, fun x hx => ?_⟩
        obtain ⟨y, hy, rfl⟩ := List.mem_map.mp hx
        have := lt y hy
        omega
    · have := hI a List.mem_cons_self
      refine pair_right_ok (t26 lt) this.2 (by omega) (by omega) ?_
      rw [if_neg (by simp)]
      exact hk2 s ⟨j, fun b hb => hI b (List.mem_cons_of_mem _ hb)⟩
    · refine mB_of (fun b t' => b = false ∧ JOk (1000 * (i + 1)) t') (fun K2 hK2 => ?_) ?_
      · refine least_right_ok (t26 lt) (by omega) (by omega) j fun t5 j5 => ?_
        rw [if_neg (by simp)]
        exact moved_right_ok (t26 lt) (by omega) (by omega) j5 fun t6 j6 => hK2 _ _ ⟨rfl, j6.mono (by omega)⟩
      · rintro b t' ⟨rfl, j'⟩
        rw [if_neg (by simp)]
        exact hk _ j'
  · rw [h4] at j
    refine draw_ok (by omega) (by omega) (by omega) j fun r t1 r0 r1 j1 => ⟨by simp, pick_ok (by simp) (by simp) (by omega) j1 fun c t2 hc j2 => ⟨by simp, pick_ok (by simp) (by simp) (by omega) j2 fun d t3 hd j3 => ?_⟩⟩
    have hc : 30 ≤ c ∧ c ≤ 300 := by
      simp only [List.mem_cons, List.not_mem_nil, or_false] at hc
      omega
    have hd : 1 ≤ d ∧ d ≤ 26 := by
      simp only [List.mem_cons, List.not_mem_nil, or_false] at hd
      omega
    refine letters_ok (by omega) (by omega) (by omega) hd.2 (by omega) j3 fun wide t4 hw lw j4 => ?_
    have hw : 30 ≤ wide.length ∧ wide.length ≤ 300 := by omega
    have j4 := j4.mono (m := 6000) (by omega)
    refine draw_ok (by omega) (by omega) (by omega) j4 fun e t5 e0 e1 j5 => ?_
    refine letters_ok (by omega) (by omega) (by omega) (by omega) (by omega) j5 fun q t6 hq lq j6 => ?_
    have hq : 20 ≤ q.length ∧ q.length ≤ 25 := by omega
    have t5' : (5 : Int).toNat = 5 := rfl
    refine ⟨⟨by omega, by omega, by rw [t5']; omega⟩, by simp, ?_⟩
    have er : pyRep q (5 : Int) = rep 5 q := rfl
    rw [er]
    have j6 := j6.mono (m := 7000) (by omega)
    have lr : Ltk 26 (rep 5 q) := fun x hx => by
      unfold rep at hx
      obtain ⟨z, hz, hx⟩ := List.mem_flatten.mp hx
      rw [(List.mem_replicate.mp hz).2] at hx
      exact (lq.mono (by omega)) x hx
    have el := rep_len 5 q
    refine mFor_n (fun i s => JOk (7000 + 10 * i) s) (by exact j6) (fun i a s K hi ha j7 hk => ?_) (fun s j7 => ?_)
    · have hi : i < 2 := by simpa using hi
      have hal : 20 ≤ a.length ∧ a.length ≤ 300 ∧ Ltk 26 a := by
        simp only [List.mem_cons, List.not_mem_nil, or_false] at ha
        rcases ha with rfl | rfl
        · exact ⟨by omega, by omega, lr⟩
        · exact ⟨by omega, by omega, lw.mono hd.2⟩
      obtain ⟨a1, a2, a3⟩ := hal
      refine draw_ok (by omega) (by omega) (by omega) j7 fun b t7 b0 b1 j8 => ?_
      rw [pyCut_drop b0, pyCut_take b0]
      refine mB_of (fun c t' => c = false ∧ JOk (7000 + 10 * (i + 1)) t') (fun K2 hK2 => ⟨by rw [List.length_drop, List.length_take]; omega, ?_⟩) ?_
      · have hrl := rot_len b.toNat a
        have hrm : Ltk 26 (rot b.toNat a) := a3.sub fun x hx => rot_mem hx
        unfold rot at hrl hrm
        refine pair_right_ok a3 hrm (by omega) (by rw [hrl]; omega) ?_
        rw [if_neg (by simp)]
        exact least_right_ok a3 (by omega) (by omega) j8 fun t8 j9 => hK2 _ _ ⟨rfl, j9.mono (by omega)⟩
      · rintro c t' ⟨rfl, j'⟩
        rw [if_neg (by simp)]
        exact hk _ j'
    · have l0 : Ltk 26 ([] : List Int) := fun x hx => by cases hx
      have hm0 : leastD datT (forms []) = some [] := rfl
      refine ⟨by simp, init_ok l0 (by simp) ?_⟩
      refine mB_of (fun b _ => b = true) (fun K hK => ?_) (fun b _ hb => hb)
      refine turn_to_ok (by simp) ?_
      have e1 : turnTo [] [] = some 0 := rfl
      rw [if_pos (by rw [e1]; simp)]
      refine least_turned_ok l0 (by simp) hm0 ?_
      rw [eqW_mk, if_pos (by simp)]
      refine ⟨by simp, init_ok (fun x hx => by simp at hx; omega) (by simp) (turn_to_ok (by simp) ?_)⟩
      have e2 : turnTo [] [1] = none := rfl
      rw [e2, if_pos (by simp)]
      refine ⟨by simp, init_ok (fun x hx => by simp at hx; omega) (by simp) (turn_to_ok (by simp) (hK _ _ ?_))⟩
      have e3 : turnTo [1, -1] [] = none := rfl
      rw [e3]; rfl
end G
namespace G
open PySem L2 TL WM
theorem mk_T {K : PySem.W.Frag} {h : Heap} {mg : Str → Option Value} (X : K.In h) (G : h.Ns mainGlobals mg)
    {C_Word f_l_jar f_l_draw f_l_pick f_l_letters f_l_drawn f_l_forms f_l_mixed f_is_listed f_is_integer f_is_within f_is_letter f_are_letters f_need_few f_are_short f_rounded_of f_Word___init__ f_need_word f_turned_letters f_turn_to f_need_number f_Word_turned f_Word___eq__ f_l_pair_right f_least_turned f_l_least_right f_Word_then f_contrary_of f_Word_contrary f_shortened_of f_Word_shortened_round f_l_moved_right f_law : Addr} {oc_l_jar kV_l_jar dc_l_jar pm_l_jar cd_l_jar ct_l_jar oc_l_draw kV_l_draw dc_l_draw pm_l_draw cd_l_draw ct_l_draw oc_l_pick kV_l_pick dc_l_pick pm_l_pick cd_l_pick ct_l_pick oc_l_letters kV_l_letters dc_l_letters pm_l_letters cd_l_letters ct_l_letters oc_l_drawn kV_l_drawn dc_l_drawn pm_l_drawn cd_l_drawn ct_l_drawn oc_l_forms kV_l_forms dc_l_forms pm_l_forms cd_l_forms ct_l_forms oc_l_mixed kV_l_mixed dc_l_mixed pm_l_mixed cd_l_mixed ct_l_mixed oc_is_listed kV_is_listed dc_is_listed pm_is_listed cd_is_listed ct_is_listed oc_is_integer kV_is_integer dc_is_integer pm_is_integer cd_is_integer ct_is_integer oc_is_within kV_is_within dc_is_within pm_is_within cd_is_within ct_is_within oc_is_letter kV_is_letter dc_is_letter pm_is_letter cd_is_letter ct_is_letter oc_are_letters kV_are_letters dc_are_letters pm_are_letters cd_are_letters ct_are_letters oc_need_few kV_need_few dc_need_few pm_need_few cd_need_few ct_need_few oc_are_short kV_are_short dc_are_short pm_are_short cd_are_short ct_are_short oc_rounded_of kV_rounded_of dc_rounded_of pm_rounded_of cd_rounded_of ct_rounded_of oc_Word___init__ kV_Word___init__ dc_Word___init__ pm_Word___init__ cd_Word___init__ ct_Word___init__ oc_need_word kV_need_word dc_need_word pm_need_word cd_need_word ct_need_word oc_turned_letters kV_turned_letters dc_turned_letters pm_turned_letters cd_turned_letters ct_turned_letters oc_turn_to kV_turn_to dc_turn_to pm_turn_to cd_turn_to ct_turn_to oc_need_number kV_need_number dc_need_number pm_need_number cd_need_number ct_need_number oc_Word_turned kV_Word_turned dc_Word_turned pm_Word_turned cd_Word_turned ct_Word_turned oc_Word___eq__ kV_Word___eq__ dc_Word___eq__ pm_Word___eq__ cd_Word___eq__ ct_Word___eq__ oc_l_pair_right kV_l_pair_right dc_l_pair_right pm_l_pair_right cd_l_pair_right ct_l_pair_right oc_least_turned kV_least_turned dc_least_turned pm_least_turned cd_least_turned ct_least_turned oc_l_least_right kV_l_least_right dc_l_least_right pm_l_least_right cd_l_least_right ct_l_least_right oc_Word_then kV_Word_then dc_Word_then pm_Word_then cd_Word_then ct_Word_then oc_contrary_of kV_contrary_of dc_contrary_of pm_contrary_of cd_contrary_of ct_contrary_of oc_Word_contrary kV_Word_contrary dc_Word_contrary pm_Word_contrary cd_Word_contrary ct_Word_contrary oc_shortened_of kV_shortened_of dc_shortened_of pm_shortened_of cd_shortened_of ct_shortened_of oc_Word_shortened_round kV_Word_shortened_round dc_Word_shortened_round pm_Word_shortened_round cd_Word_shortened_round ct_Word_shortened_round oc_l_moved_right kV_l_moved_right dc_l_moved_right pm_l_moved_right cd_l_moved_right ct_l_moved_right oc_law kV_law dc_law pm_law cd_law ct_law : Value} {od_l_jar an_l_jar od_l_draw an_l_draw od_l_pick an_l_pick od_l_letters an_l_letters od_l_drawn an_l_drawn od_l_forms an_l_forms od_l_mixed an_l_mixed od_is_listed an_is_listed od_is_integer an_is_integer od_is_within an_is_within od_is_letter an_is_letter od_are_letters an_are_letters od_need_few an_need_few od_are_short an_are_short od_rounded_of an_rounded_of od_Word___init__ an_Word___init__ od_need_word an_need_word od_turned_letters an_turned_letters od_turn_to an_turn_to od_need_number an_need_number od_Word_turned an_Word_turned od_Word___eq__ an_Word___eq__ od_l_pair_right an_l_pair_right od_least_turned an_least_turned od_l_least_right an_l_least_right od_Word_then an_Word_then od_contrary_of an_contrary_of od_Word_contrary an_Word_contrary od_shortened_of an_shortened_of od_Word_shortened_round an_Word_shortened_round od_l_moved_right an_l_moved_right od_law an_law : Option Addr} {sl_l_jar sl_l_draw sl_l_pick sl_l_letters sl_l_drawn sl_l_forms sl_l_mixed sl_is_listed sl_is_integer sl_is_within sl_is_letter sl_are_letters sl_need_few sl_are_short sl_rounded_of sl_Word___init__ sl_need_word sl_turned_letters sl_turn_to sl_need_number sl_Word_turned sl_Word___eq__ sl_l_pair_right sl_least_turned sl_l_least_right sl_Word_then sl_contrary_of sl_Word_contrary sl_shortened_of sl_Word_shortened_round sl_l_moved_right sl_law : Array (Option Value)} {t_LAST_KIND t_MOST_LETTERS : Tok}
    (h0 : PySem.W.nsIn K mainGlobals "Word" = some (some (.ref C_Word)))
    (h1 : PySem.W.nsIn K mainGlobals "_law_jar" = some (some (.ref f_l_jar)))
    (h2 : K.lookup f_l_jar = some ⟨oc_l_jar, od_l_jar, .func (PySem.W.fnOf "_law_jar" "_law_jar" (defArgs s_l_jar) (defBody s_l_jar) (defScope s_l_jar) .none kV_l_jar dc_l_jar pm_l_jar an_l_jar cd_l_jar ct_l_jar), sl_l_jar⟩)
    (h3 : PySem.W.codeIn K cd_l_jar "_law_jar" = true)
    (h4 : PySem.W.keepIn K (.ref f_l_jar) = true)
    (h5 : PySem.W.nsIn K mainGlobals "_law_draw" = some (some (.ref f_l_draw)))
    (h6 : K.lookup f_l_draw = some ⟨oc_l_draw, od_l_draw, .func (PySem.W.fnOf "_law_draw" "_law_draw" (defArgs s_l_draw) (defBody s_l_draw) (defScope s_l_draw) .none kV_l_draw dc_l_draw pm_l_draw an_l_draw cd_l_draw ct_l_draw), sl_l_draw⟩)
    (h7 : PySem.W.codeIn K cd_l_draw "_law_draw" = true)
    (h8 : PySem.W.keepIn K (.ref f_l_draw) = true)
    (h9 : PySem.W.nsIn K mainGlobals "_law_pick" = some (some (.ref f_l_pick)))
    (h10 : K.lookup f_l_pick = some ⟨oc_l_pick, od_l_pick, .func (PySem.W.fnOf "_law_pick" "_law_pick" (defArgs s_l_pick) (defBody s_l_pick) (defScope s_l_pick) .none kV_l_pick dc_l_pick pm_l_pick an_l_pick cd_l_pick ct_l_pick), sl_l_pick⟩)
    (h11 : PySem.W.codeIn K cd_l_pick "_law_pick" = true)
    (h12 : PySem.W.keepIn K (.ref f_l_pick) = true)
    (h13 : PySem.W.nsIn K mainGlobals "_law_letters" = some (some (.ref f_l_letters)))
    (h14 : K.lookup f_l_letters = some ⟨oc_l_letters, od_l_letters, .func (PySem.W.fnOf "_law_letters" "_law_letters" (defArgs s_l_letters) (defBody s_l_letters) (defScope s_l_letters) .none kV_l_letters dc_l_letters pm_l_letters an_l_letters cd_l_letters ct_l_letters), sl_l_letters⟩)
    (h15 : PySem.W.codeIn K cd_l_letters "_law_letters" = true)
    (h16 : PySem.W.keepIn K (.ref f_l_letters) = true)
    (h17 : PySem.W.nsIn K mainGlobals "_law_drawn" = some (some (.ref f_l_drawn)))
    (h18 : K.lookup f_l_drawn = some ⟨oc_l_drawn, od_l_drawn, .func (PySem.W.fnOf "_law_drawn" "_law_drawn" (defArgs s_l_drawn) (defBody s_l_drawn) (defScope s_l_drawn) .none kV_l_drawn dc_l_drawn pm_l_drawn an_l_drawn cd_l_drawn ct_l_drawn), sl_l_drawn⟩)
    (h19 : PySem.W.codeIn K cd_l_drawn "_law_drawn" = true)
    (h20 : PySem.W.keepIn K (.ref f_l_drawn) = true)
    (h21 : PySem.W.nsIn K mainGlobals "_law_forms" = some (some (.ref f_l_forms)))
    (h22 : K.lookup f_l_forms = some ⟨oc_l_forms, od_l_forms, .func (PySem.W.fnOf "_law_forms" "_law_forms" (defArgs s_l_forms) (defBody s_l_forms) (defScope s_l_forms) .none kV_l_forms dc_l_forms pm_l_forms an_l_forms cd_l_forms ct_l_forms), sl_l_forms⟩)
    (h23 : PySem.W.codeIn K cd_l_forms "_law_forms" = true)
    (h24 : PySem.W.keepIn K (.ref f_l_forms) = true)
    (h25 : PySem.W.nsIn K mainGlobals "_law_mixed" = some (some (.ref f_l_mixed)))
    (h26 : K.lookup f_l_mixed = some ⟨oc_l_mixed, od_l_mixed, .func (PySem.W.fnOf "_law_mixed" "_law_mixed" (defArgs s_l_mixed) (defBody s_l_mixed) (defScope s_l_mixed) .none kV_l_mixed dc_l_mixed pm_l_mixed an_l_mixed cd_l_mixed ct_l_mixed), sl_l_mixed⟩)
    (h27 : PySem.W.codeIn K cd_l_mixed "_law_mixed" = true)
    (h28 : PySem.W.keepIn K (.ref f_l_mixed) = true)
    (h29 : PySem.W.nsIn K mainGlobals "is_listed" = some (some (.ref f_is_listed)))
    (h30 : K.lookup f_is_listed = some ⟨oc_is_listed, od_is_listed, .func (PySem.W.fnOf "is_listed" "is_listed" (defArgs s_is_listed) (defBody s_is_listed) (defScope s_is_listed) .none kV_is_listed dc_is_listed pm_is_listed an_is_listed cd_is_listed ct_is_listed), sl_is_listed⟩)
    (h31 : PySem.W.codeIn K cd_is_listed "is_listed" = true)
    (h32 : PySem.W.keepIn K (.ref f_is_listed) = true)
    (h33 : PySem.W.nsIn K mainGlobals "is_integer" = some (some (.ref f_is_integer)))
    (h34 : K.lookup f_is_integer = some ⟨oc_is_integer, od_is_integer, .func (PySem.W.fnOf "is_integer" "is_integer" (defArgs s_is_integer) (defBody s_is_integer) (defScope s_is_integer) .none kV_is_integer dc_is_integer pm_is_integer an_is_integer cd_is_integer ct_is_integer), sl_is_integer⟩)
    (h35 : PySem.W.codeIn K cd_is_integer "is_integer" = true)
    (h36 : PySem.W.keepIn K (.ref f_is_integer) = true)
    (h37 : PySem.W.nsIn K mainGlobals "is_within" = some (some (.ref f_is_within)))
    (h38 : K.lookup f_is_within = some ⟨oc_is_within, od_is_within, .func (PySem.W.fnOf "is_within" "is_within" (defArgs s_is_within) (defBody s_is_within) (defScope s_is_within) .none kV_is_within dc_is_within pm_is_within an_is_within cd_is_within ct_is_within), sl_is_within⟩)
    (h39 : PySem.W.codeIn K cd_is_within "is_within" = true)
    (h40 : PySem.W.keepIn K (.ref f_is_within) = true)
    (h41 : PySem.W.nsIn K mainGlobals "is_letter" = some (some (.ref f_is_letter)))
    (h42 : K.lookup f_is_letter = some ⟨oc_is_letter, od_is_letter, .func (PySem.W.fnOf "is_letter" "is_letter" (defArgs s_is_letter) (defBody s_is_letter) (defScope s_is_letter) .none kV_is_letter dc_is_letter pm_is_letter an_is_letter cd_is_letter ct_is_letter), sl_is_letter⟩)
    (h43 : PySem.W.codeIn K cd_is_letter "is_letter" = true)
    (h44 : PySem.W.keepIn K (.ref f_is_letter) = true)
    (h45 : PySem.W.nsIn K mainGlobals "are_letters" = some (some (.ref f_are_letters)))
    (h46 : K.lookup f_are_letters = some ⟨oc_are_letters, od_are_letters, .func (PySem.W.fnOf "are_letters" "are_letters" (defArgs s_are_letters) (defBody s_are_letters) (defScope s_are_letters) .none kV_are_letters dc_are_letters pm_are_letters an_are_letters cd_are_letters ct_are_letters), sl_are_letters⟩)
    (h47 : PySem.W.codeIn K cd_are_letters "are_letters" = true)
    (h48 : PySem.W.keepIn K (.ref f_are_letters) = true)
    (h49 : PySem.W.nsIn K mainGlobals "need_few" = some (some (.ref f_need_few)))
    (h50 : K.lookup f_need_few = some ⟨oc_need_few, od_need_few, .func (PySem.W.fnOf "need_few" "need_few" (defArgs s_need_few) (defBody s_need_few) (defScope s_need_few) .none kV_need_few dc_need_few pm_need_few an_need_few cd_need_few ct_need_few), sl_need_few⟩)
    (h51 : PySem.W.codeIn K cd_need_few "need_few" = true)
    (h52 : PySem.W.keepIn K (.ref f_need_few) = true)
    (h53 : PySem.W.nsIn K mainGlobals "are_short" = some (some (.ref f_are_short)))
    (h54 : K.lookup f_are_short = some ⟨oc_are_short, od_are_short, .func (PySem.W.fnOf "are_short" "are_short" (defArgs s_are_short) (defBody s_are_short) (defScope s_are_short) .none kV_are_short dc_are_short pm_are_short an_are_short cd_are_short ct_are_short), sl_are_short⟩)
    (h55 : PySem.W.codeIn K cd_are_short "are_short" = true)
    (h56 : PySem.W.keepIn K (.ref f_are_short) = true)
    (h57 : PySem.W.nsIn K mainGlobals "rounded_of" = some (some (.ref f_rounded_of)))
    (h58 : K.lookup f_rounded_of = some ⟨oc_rounded_of, od_rounded_of, .func (PySem.W.fnOf "rounded_of" "rounded_of" (defArgs s_rounded_of) (defBody s_rounded_of) (defScope s_rounded_of) .none kV_rounded_of dc_rounded_of pm_rounded_of an_rounded_of cd_rounded_of ct_rounded_of), sl_rounded_of⟩)
    (h59 : PySem.W.codeIn K cd_rounded_of "rounded_of" = true)
    (h60 : PySem.W.keepIn K (.ref f_rounded_of) = true)
    (h61 : PySem.W.findIn K (.ref C_Word) "__init__" = some (some (.ref f_Word___init__)))
    (h62 : PySem.W.isFn K (.ref f_Word___init__) = true)
    (h63 : K.lookup f_Word___init__ = some ⟨oc_Word___init__, od_Word___init__, .func (PySem.W.fnOf "__init__" "Word.__init__" (defArgs s_Word___init__) (defBody s_Word___init__) (defScope s_Word___init__) .none kV_Word___init__ dc_Word___init__ pm_Word___init__ an_Word___init__ cd_Word___init__ ct_Word___init__), sl_Word___init__⟩)
    (h64 : PySem.W.codeIn K cd_Word___init__ "Word.__init__" = true)
    (h65 : PySem.W.keepIn K (.ref f_Word___init__) = true)
    (h66 : PySem.W.nsIn K mainGlobals "need_word" = some (some (.ref f_need_word)))
    (h67 : K.lookup f_need_word = some ⟨oc_need_word, od_need_word, .func (PySem.W.fnOf "need_word" "need_word" (defArgs s_need_word) (defBody s_need_word) (defScope s_need_word) .none kV_need_word dc_need_word pm_need_word an_need_word cd_need_word ct_need_word), sl_need_word⟩)
    (h68 : PySem.W.codeIn K cd_need_word "need_word" = true)
    (h69 : PySem.W.keepIn K (.ref f_need_word) = true)
    (h70 : PySem.W.nsIn K mainGlobals "turned_letters" = some (some (.ref f_turned_letters)))
    (h71 : K.lookup f_turned_letters = some ⟨oc_turned_letters, od_turned_letters, .func (PySem.W.fnOf "turned_letters" "turned_letters" (defArgs s_turned_letters) (defBody s_turned_letters) (defScope s_turned_letters) .none kV_turned_letters dc_turned_letters pm_turned_letters an_turned_letters cd_turned_letters ct_turned_letters), sl_turned_letters⟩)
    (h72 : PySem.W.codeIn K cd_turned_letters "turned_letters" = true)
    (h73 : PySem.W.keepIn K (.ref f_turned_letters) = true)
    (h74 : PySem.W.nsIn K mainGlobals "turn_to" = some (some (.ref f_turn_to)))
    (h75 : K.lookup f_turn_to = some ⟨oc_turn_to, od_turn_to, .func (PySem.W.fnOf "turn_to" "turn_to" (defArgs s_turn_to) (defBody s_turn_to) (defScope s_turn_to) .none kV_turn_to dc_turn_to pm_turn_to an_turn_to cd_turn_to ct_turn_to), sl_turn_to⟩)
    (h76 : PySem.W.codeIn K cd_turn_to "turn_to" = true)
    (h77 : PySem.W.keepIn K (.ref f_turn_to) = true)
    (h78 : PySem.W.nsIn K mainGlobals "need_number" = some (some (.ref f_need_number)))
    (h79 : K.lookup f_need_number = some ⟨oc_need_number, od_need_number, .func (PySem.W.fnOf "need_number" "need_number" (defArgs s_need_number) (defBody s_need_number) (defScope s_need_number) .none kV_need_number dc_need_number pm_need_number an_need_number cd_need_number ct_need_number), sl_need_number⟩)
    (h80 : PySem.W.codeIn K cd_need_number "need_number" = true)
    (h81 : PySem.W.keepIn K (.ref f_need_number) = true)
    (h82 : PySem.W.findIn K (.ref C_Word) "turned" = some (some (.ref f_Word_turned)))
    (h83 : PySem.W.isFn K (.ref f_Word_turned) = true)
    (h84 : K.lookup f_Word_turned = some ⟨oc_Word_turned, od_Word_turned, .func (PySem.W.fnOf "turned" "Word.turned" (defArgs s_Word_turned) (defBody s_Word_turned) (defScope s_Word_turned) .none kV_Word_turned dc_Word_turned pm_Word_turned an_Word_turned cd_Word_turned ct_Word_turned), sl_Word_turned⟩)
    (h85 : PySem.W.codeIn K cd_Word_turned "Word.turned" = true)
    (h86 : PySem.W.keepIn K (.ref f_Word_turned) = true)
    (h87 : PySem.W.findIn K (.ref C_Word) "__eq__" = some (some (.ref f_Word___eq__)))
    (h88 : PySem.W.isFn K (.ref f_Word___eq__) = true)
    (h89 : K.lookup f_Word___eq__ = some ⟨oc_Word___eq__, od_Word___eq__, .func (PySem.W.fnOf "__eq__" "Word.__eq__" (defArgs s_Word___eq__) (defBody s_Word___eq__) (defScope s_Word___eq__) .none kV_Word___eq__ dc_Word___eq__ pm_Word___eq__ an_Word___eq__ cd_Word___eq__ ct_Word___eq__), sl_Word___eq__⟩)
    (h90 : PySem.W.codeIn K cd_Word___eq__ "Word.__eq__" = true)
    (h91 : PySem.W.keepIn K (.ref f_Word___eq__) = true)
    (h92 : PySem.W.nsIn K mainGlobals "_law_pair_right" = some (some (.ref f_l_pair_right)))
    (h93 : K.lookup f_l_pair_right = some ⟨oc_l_pair_right, od_l_pair_right, .func (PySem.W.fnOf "_law_pair_right" "_law_pair_right" (defArgs s_l_pair_right) (defBody s_l_pair_right) (defScope s_l_pair_right) .none kV_l_pair_right dc_l_pair_right pm_l_pair_right an_l_pair_right cd_l_pair_right ct_l_pair_right), sl_l_pair_right⟩)
    (h94 : PySem.W.codeIn K cd_l_pair_right "_law_pair_right" = true)
    (h95 : PySem.W.keepIn K (.ref f_l_pair_right) = true)
    (h96 : PySem.W.nsIn K mainGlobals "least_turned" = some (some (.ref f_least_turned)))
    (h97 : K.lookup f_least_turned = some ⟨oc_least_turned, od_least_turned, .func (PySem.W.fnOf "least_turned" "least_turned" (defArgs s_least_turned) (defBody s_least_turned) (defScope s_least_turned) .none kV_least_turned dc_least_turned pm_least_turned an_least_turned cd_least_turned ct_least_turned), sl_least_turned⟩)
    (h98 : PySem.W.codeIn K cd_least_turned "least_turned" = true)
    (h99 : PySem.W.keepIn K (.ref f_least_turned) = true)
    (h100 : PySem.W.nsIn K mainGlobals "_law_least_right" = some (some (.ref f_l_least_right)))
    (h101 : K.lookup f_l_least_right = some ⟨oc_l_least_right, od_l_least_right, .func (PySem.W.fnOf "_law_least_right" "_law_least_right" (defArgs s_l_least_right) (defBody s_l_least_right) (defScope s_l_least_right) .none kV_l_least_right dc_l_least_right pm_l_least_right an_l_least_right cd_l_least_right ct_l_least_right), sl_l_least_right⟩)
    (h102 : PySem.W.codeIn K cd_l_least_right "_law_least_right" = true)
    (h103 : PySem.W.keepIn K (.ref f_l_least_right) = true)
    (h104 : PySem.W.findIn K (.ref C_Word) "then" = some (some (.ref f_Word_then)))
    (h105 : PySem.W.isFn K (.ref f_Word_then) = true)
    (h106 : K.lookup f_Word_then = some ⟨oc_Word_then, od_Word_then, .func (PySem.W.fnOf "then" "Word.then" (defArgs s_Word_then) (defBody s_Word_then) (defScope s_Word_then) .none kV_Word_then dc_Word_then pm_Word_then an_Word_then cd_Word_then ct_Word_then), sl_Word_then⟩)
    (h107 : PySem.W.codeIn K cd_Word_then "Word.then" = true)
    (h108 : PySem.W.keepIn K (.ref f_Word_then) = true)
    (h109 : PySem.W.nsIn K mainGlobals "contrary_of" = some (some (.ref f_contrary_of)))
    (h110 : K.lookup f_contrary_of = some ⟨oc_contrary_of, od_contrary_of, .func (PySem.W.fnOf "contrary_of" "contrary_of" (defArgs s_contrary_of) (defBody s_contrary_of) (defScope s_contrary_of) .none kV_contrary_of dc_contrary_of pm_contrary_of an_contrary_of cd_contrary_of ct_contrary_of), sl_contrary_of⟩)
    (h111 : PySem.W.codeIn K cd_contrary_of "contrary_of" = true)
    (h112 : PySem.W.keepIn K (.ref f_contrary_of) = true)
    (h113 : PySem.W.findIn K (.ref C_Word) "contrary" = some (some (.ref f_Word_contrary)))
    (h114 : PySem.W.isFn K (.ref f_Word_contrary) = true)
    (h115 : K.lookup f_Word_contrary = some ⟨oc_Word_contrary, od_Word_contrary, .func (PySem.W.fnOf "contrary" "Word.contrary" (defArgs s_Word_contrary) (defBody s_Word_contrary) (defScope s_Word_contrary) .none kV_Word_contrary dc_Word_contrary pm_Word_contrary an_Word_contrary cd_Word_contrary ct_Word_contrary), sl_Word_contrary⟩)
    (h116 : PySem.W.codeIn K cd_Word_contrary "Word.contrary" = true)
    (h117 : PySem.W.keepIn K (.ref f_Word_contrary) = true)
    (h118 : PySem.W.nsIn K mainGlobals "shortened_of" = some (some (.ref f_shortened_of)))
    (h119 : K.lookup f_shortened_of = some ⟨oc_shortened_of, od_shortened_of, .func (PySem.W.fnOf "shortened_of" "shortened_of" (defArgs s_shortened_of) (defBody s_shortened_of) (defScope s_shortened_of) .none kV_shortened_of dc_shortened_of pm_shortened_of an_shortened_of cd_shortened_of ct_shortened_of), sl_shortened_of⟩)
    (h120 : PySem.W.codeIn K cd_shortened_of "shortened_of" = true)
    (h121 : PySem.W.keepIn K (.ref f_shortened_of) = true)
    (h122 : PySem.W.findIn K (.ref C_Word) "shortened_round" = some (some (.ref f_Word_shortened_round)))
    (h123 : PySem.W.isFn K (.ref f_Word_shortened_round) = true)
    (h124 : K.lookup f_Word_shortened_round = some ⟨oc_Word_shortened_round, od_Word_shortened_round, .func (PySem.W.fnOf "shortened_round" "Word.shortened_round" (defArgs s_Word_shortened_round) (defBody s_Word_shortened_round) (defScope s_Word_shortened_round) .none kV_Word_shortened_round dc_Word_shortened_round pm_Word_shortened_round an_Word_shortened_round cd_Word_shortened_round ct_Word_shortened_round), sl_Word_shortened_round⟩)
    (h125 : PySem.W.codeIn K cd_Word_shortened_round "Word.shortened_round" = true)
    (h126 : PySem.W.keepIn K (.ref f_Word_shortened_round) = true)
    (h127 : PySem.W.nsIn K mainGlobals "_law_moved_right" = some (some (.ref f_l_moved_right)))
    (h128 : K.lookup f_l_moved_right = some ⟨oc_l_moved_right, od_l_moved_right, .func (PySem.W.fnOf "_law_moved_right" "_law_moved_right" (defArgs s_l_moved_right) (defBody s_l_moved_right) (defScope s_l_moved_right) .none kV_l_moved_right dc_l_moved_right pm_l_moved_right an_l_moved_right cd_l_moved_right ct_l_moved_right), sl_l_moved_right⟩)
    (h129 : PySem.W.codeIn K cd_l_moved_right "_law_moved_right" = true)
    (h130 : PySem.W.keepIn K (.ref f_l_moved_right) = true)
    (h131 : PySem.W.nsIn K mainGlobals "law" = some (some (.ref f_law)))
    (h132 : K.lookup f_law = some ⟨oc_law, od_law, .func (PySem.W.fnOf "law" "law" (defArgs s_law) (defBody s_law) (defScope s_law) .none kV_law dc_law pm_law an_law cd_law ct_law), sl_law⟩)
    (h133 : PySem.W.codeIn K cd_law "law" = true)
    (h134 : PySem.W.keepIn K (.ref f_law) = true)
    (h135 : PySem.W.plainGet K C_Word Str.empty = true)
    (h136 : PySem.W.hasDictIn K C_Word = true)
    (h137 : PySem.W.plainOver K C_Word = true)
    (h138 : PySem.W.findIn K (.ref C_Word) "__setattr__" = some (some (.builtin "object.__setattr__")))
    (h139 : PySem.W.makesIn K C_Word = true)
    (h140 : PySem.W.keepIn K (.ref C_Word) = true)
    (h141 : PySem.W.findIn K (.ref C_Word) "is_short" = some none)
    (h142 : PySem.W.findIn K (.ref C_Word) "is_short_round" = some none)
    (h143 : PySem.W.findIn K (.ref C_Word) "kinds" = some none)
    (h144 : PySem.W.findIn K (.ref C_Word) "length" = some none)
    (h145 : PySem.W.findIn K (.ref C_Word) "letters" = some none)
    (h146 : PySem.W.findIn K (.ref C_Word) "__class__" = some (some (.builtin "object.__class__")))
    (h147 : PySem.W.specialIn K (.builtin "object.__class__") "__get__" = some (some (.builtin "getset_descriptor.__get__")))
    (h148 : PySem.W.takesIn K (.builtin "object.__class__") = some true)
    (h149 : PySem.W.mroIn K C_Word (.type "object") = some true)
    (h150 : PySem.W.findIn K (.ref C_Word) "__ne__" = some (some (.builtin "object.__ne__")))
    (h151 : PySem.W.nsIn K mainGlobals "abs" = some none)
    (h152 : PySem.W.nsIn K mainGlobals "all" = some none)
    (h153 : PySem.W.nsIn K mainGlobals "bool" = some none)
    (h154 : PySem.W.nsIn K mainGlobals "enumerate" = some none)
    (h155 : PySem.W.nsIn K mainGlobals "int" = some none)
    (h156 : PySem.W.nsIn K mainGlobals "isinstance" = some none)
    (h157 : PySem.W.nsIn K mainGlobals "len" = some none)
    (h158 : PySem.W.nsIn K mainGlobals "list" = some none)
    (h159 : PySem.W.nsIn K mainGlobals "max" = some none)
    (h160 : PySem.W.nsIn K mainGlobals "min" = some none)
    (h161 : PySem.W.nsIn K mainGlobals "range" = some none)
    (h162 : PySem.W.nsIn K mainGlobals "sorted" = some none)
    (h163 : PySem.W.nsIn K mainGlobals "tuple" = some none)
    (h164 : PySem.W.nsIn K mainGlobals "zip" = some none)
    (h165 : PySem.W.nsIn K mainGlobals "LAST_KIND" = some (some (.int 26 t_LAST_KIND)))
    (h166 : PySem.W.nsIn K mainGlobals "MOST_LETTERS" = some (some (.int 500 t_MOST_LETTERS))) :
    ∃ (T : Tx K mg) (kV dc pm cd ct : Value) (an : Option Addr), T.d_law = PySem.W.fnOf "law" "law" (defArgs s_law) (defBody s_law) (defScope s_law) .none kV dc pm an cd ct :=
  ⟨{ C_Word := C_Word,
      g_Word := PySem.W.mg_of X G h0,
      a_l_jar := f_l_jar,
      d_l_jar := PySem.W.fnOf "_law_jar" "_law_jar" (defArgs s_l_jar) (defBody s_l_jar) (defScope s_l_jar) .none kV_l_jar dc_l_jar pm_l_jar an_l_jar cd_l_jar ct_l_jar,
      F_l_jar := (fun_mk (st := s_l_jar) h2 h3 h4),
      b_l_jar := ((fun_mk (st := s_l_jar) h2 h3 h4).binds (ps := ["_law_script"]) fun _ _ _ _ _ _ us hl => match us, hl with | [_], _ => rfl),
      g_l_jar := PySem.W.mg_of X G h1,
      a_l_draw := f_l_draw,
      d_l_draw := PySem.W.fnOf "_law_draw" "_law_draw" (defArgs s_l_draw) (defBody s_l_draw) (defScope s_l_draw) .none kV_l_draw dc_l_draw pm_l_draw an_l_draw cd_l_draw ct_l_draw,
      F_l_draw := (fun_mk (st := s_l_draw) h6 h7 h8),
      b_l_draw := ((fun_mk (st := s_l_draw) h6 h7 h8).binds (ps := ["_law_jar_here", "_law_many"]) fun _ _ _ _ _ _ us hl => match us, hl with | [_, _], _ => rfl),
      g_l_draw := PySem.W.mg_of X G h5,
      a_l_pick := f_l_pick,
      d_l_pick := PySem.W.fnOf "_law_pick" "_law_pick" (defArgs s_l_pick) (defBody s_l_pick) (defScope s_l_pick) .none kV_l_pick dc_l_pick pm_l_pick an_l_pick cd_l_pick ct_l_pick,
      F_l_pick := (fun_mk (st := s_l_pick) h10 h11 h12),
      b_l_pick := ((fun_mk (st := s_l_pick) h10 h11 h12).binds (ps := ["_law_jar_here", "_law_some"]) fun _ _ _ _ _ _ us hl => match us, hl with | [_, _], _ => rfl),
      g_l_pick := PySem.W.mg_of X G h9,
      a_l_letters := f_l_letters,
      d_l_letters := PySem.W.fnOf "_law_letters" "_law_letters" (defArgs s_l_letters) (defBody s_l_letters) (defScope s_l_letters) .none kV_l_letters dc_l_letters pm_l_letters an_l_letters cd_l_letters ct_l_letters,
      F_l_letters := (fun_mk (st := s_l_letters) h14 h15 h16),
      b_l_letters := ((fun_mk (st := s_l_letters) h14 h15 h16).binds (ps := ["_law_jar_here", "_law_many", "_law_kinds"]) fun _ _ _ _ _ _ us hl => match us, hl with | [_, _, _], _ => rfl),
      g_l_letters := PySem.W.mg_of X G h13,
      a_l_drawn := f_l_drawn,
      d_l_drawn := PySem.W.fnOf "_law_drawn" "_law_drawn" (defArgs s_l_drawn) (defBody s_l_drawn) (defScope s_l_drawn) .none kV_l_drawn dc_l_drawn pm_l_drawn an_l_drawn cd_l_drawn ct_l_drawn,
      F_l_drawn := (fun_mk (st := s_l_drawn) h18 h19 h20),
      b_l_drawn := ((fun_mk (st := s_l_drawn) h18 h19 h20).binds (ps := ["_law_jar_here"]) fun _ _ _ _ _ _ us hl => match us, hl with | [_], _ => rfl),
      g_l_drawn := PySem.W.mg_of X G h17,
      a_l_forms := f_l_forms,
      d_l_forms := PySem.W.fnOf "_law_forms" "_law_forms" (defArgs s_l_forms) (defBody s_l_forms) (defScope s_l_forms) .none kV_l_forms dc_l_forms pm_l_forms an_l_forms cd_l_forms ct_l_forms,
      F_l_forms := (fun_mk (st := s_l_forms) h22 h23 h24),
      b_l_forms := ((fun_mk (st := s_l_forms) h22 h23 h24).binds (ps := ["_law_letters_here"]) fun _ _ _ _ _ _ us hl => match us, hl with | [_], _ => rfl),
      g_l_forms := PySem.W.mg_of X G h21,
      a_l_mixed := f_l_mixed,
      d_l_mixed := PySem.W.fnOf "_law_mixed" "_law_mixed" (defArgs s_l_mixed) (defBody s_l_mixed) (defScope s_l_mixed) .none kV_l_mixed dc_l_mixed pm_l_mixed an_l_mixed cd_l_mixed ct_l_mixed,
      F_l_mixed := (fun_mk (st := s_l_mixed) h26 h27 h28),
      b_l_mixed := ((fun_mk (st := s_l_mixed) h26 h27 h28).binds (ps := ["_law_jar_here", "_law_some"]) fun _ _ _ _ _ _ us hl => match us, hl with | [_, _], _ => rfl),
      g_l_mixed := PySem.W.mg_of X G h25,
      a_is_listed := f_is_listed,
      d_is_listed := PySem.W.fnOf "is_listed" "is_listed" (defArgs s_is_listed) (defBody s_is_listed) (defScope s_is_listed) .none kV_is_listed dc_is_listed pm_is_listed an_is_listed cd_is_listed ct_is_listed,
      F_is_listed := (fun_mk (st := s_is_listed) h30 h31 h32),
      b_is_listed := ((fun_mk (st := s_is_listed) h30 h31 h32).binds (ps := ["value"]) fun _ _ _ _ _ _ us hl => match us, hl with | [_], _ => rfl),
      g_is_listed := PySem.W.mg_of X G h29,
      a_is_integer := f_is_integer,
      d_is_integer := PySem.W.fnOf "is_integer" "is_integer" (defArgs s_is_integer) (defBody s_is_integer) (defScope s_is_integer) .none kV_is_integer dc_is_integer pm_is_integer an_is_integer cd_is_integer ct_is_integer,
      F_is_integer := (fun_mk (st := s_is_integer) h34 h35 h36),
      b_is_integer := ((fun_mk (st := s_is_integer) h34 h35 h36).binds (ps := ["value"]) fun _ _ _ _ _ _ us hl => match us, hl with | [_], _ => rfl),
      g_is_integer := PySem.W.mg_of X G h33,
      a_is_within := f_is_within,
      d_is_within := PySem.W.fnOf "is_within" "is_within" (defArgs s_is_within) (defBody s_is_within) (defScope s_is_within) .none kV_is_within dc_is_within pm_is_within an_is_within cd_is_within ct_is_within,
      F_is_within := (fun_mk (st := s_is_within) h38 h39 h40),
      b_is_within := ((fun_mk (st := s_is_within) h38 h39 h40).binds (ps := ["value", "least", "most"]) fun _ _ _ _ _ _ us hl => match us, hl with | [_, _, _], _ => rfl),
      g_is_within := PySem.W.mg_of X G h37,
      a_is_letter := f_is_letter,
      d_is_letter := PySem.W.fnOf "is_letter" "is_letter" (defArgs s_is_letter) (defBody s_is_letter) (defScope s_is_letter) .none kV_is_letter dc_is_letter pm_is_letter an_is_letter cd_is_letter ct_is_letter,
      F_is_letter := (fun_mk (st := s_is_letter) h42 h43 h44),
      b_is_letter := ((fun_mk (st := s_is_letter) h42 h43 h44).binds (ps := ["value"]) fun _ _ _ _ _ _ us hl => match us, hl with | [_], _ => rfl),
      g_is_letter := PySem.W.mg_of X G h41,
      a_are_letters := f_are_letters,
      d_are_letters := PySem.W.fnOf "are_letters" "are_letters" (defArgs s_are_letters) (defBody s_are_letters) (defScope s_are_letters) .none kV_are_letters dc_are_letters pm_are_letters an_are_letters cd_are_letters ct_are_letters,
      F_are_letters := (fun_mk (st := s_are_letters) h46 h47 h48),
      b_are_letters := ((fun_mk (st := s_are_letters) h46 h47 h48).binds (ps := ["value"]) fun _ _ _ _ _ _ us hl => match us, hl with | [_], _ => rfl),
      g_are_letters := PySem.W.mg_of X G h45,
      a_need_few := f_need_few,
      d_need_few := PySem.W.fnOf "need_few" "need_few" (defArgs s_need_few) (defBody s_need_few) (defScope s_need_few) .none kV_need_few dc_need_few pm_need_few an_need_few cd_need_few ct_need_few,
      F_need_few := (fun_mk (st := s_need_few) h50 h51 h52),
      b_need_few := ((fun_mk (st := s_need_few) h50 h51 h52).binds (ps := ["many"]) fun _ _ _ _ _ _ us hl => match us, hl with | [_], _ => rfl),
      g_need_few := PySem.W.mg_of X G h49,
      a_are_short := f_are_short,
      d_are_short := PySem.W.fnOf "are_short" "are_short" (defArgs s_are_short) (defBody s_are_short) (defScope s_are_short) .none kV_are_short dc_are_short pm_are_short an_are_short cd_are_short ct_are_short,
      F_are_short := (fun_mk (st := s_are_short) h54 h55 h56),
      b_are_short := ((fun_mk (st := s_are_short) h54 h55 h56).binds (ps := ["letters"]) fun _ _ _ _ _ _ us hl => match us, hl with | [_], _ => rfl),
      g_are_short := PySem.W.mg_of X G h53,
      a_rounded_of := f_rounded_of,
      d_rounded_of := PySem.W.fnOf "rounded_of" "rounded_of" (defArgs s_rounded_of) (defBody s_rounded_of) (defScope s_rounded_of) .none kV_rounded_of dc_rounded_of pm_rounded_of an_rounded_of cd_rounded_of ct_rounded_of,
      F_rounded_of := (fun_mk (st := s_rounded_of) h58 h59 h60),
      b_rounded_of := ((fun_mk (st := s_rounded_of) h58 h59 h60).binds (ps := ["letters"]) fun _ _ _ _ _ _ us hl => match us, hl with | [_], _ => rfl),
      g_rounded_of := PySem.W.mg_of X G h57,
      a_Word___init__ := f_Word___init__,
      d_Word___init__ := PySem.W.fnOf "__init__" "Word.__init__" (defArgs s_Word___init__) (defBody s_Word___init__) (defScope s_Word___init__) .none kV_Word___init__ dc_Word___init__ pm_Word___init__ an_Word___init__ cd_Word___init__ ct_Word___init__,
      F_Word___init__ := (fun_mk (st := s_Word___init__) h63 h64 h65),
      b_Word___init__ := ((fun_mk (st := s_Word___init__) h63 h64 h65).binds (ps := ["self", "letters"]) fun _ _ _ _ _ _ us hl => match us, hl with | [_, _], _ => rfl),
      a_need_word := f_need_word,
      d_need_word := PySem.W.fnOf "need_word" "need_word" (defArgs s_need_word) (defBody s_need_word) (defScope s_need_word) .none kV_need_word dc_need_word pm_need_word an_need_word cd_need_word ct_need_word,
      F_need_word := (fun_mk (st := s_need_word) h67 h68 h69),
      b_need_word := ((fun_mk (st := s_need_word) h67 h68 h69).binds (ps := ["value", "part"]) fun _ _ _ _ _ _ us hl => match us, hl with | [_, _], _ => rfl),
      g_need_word := PySem.W.mg_of X G h66,
      a_turned_letters := f_turned_letters,
      d_turned_letters := PySem.W.fnOf "turned_letters" "turned_letters" (defArgs s_turned_letters) (defBody s_turned_letters) (defScope s_turned_letters) .none kV_turned_letters dc_turned_letters pm_turned_letters an_turned_letters cd_turned_letters ct_turned_letters,
      F_turned_letters := (fun_mk (st := s_turned_letters) h71 h72 h73),
      b_turned_letters := ((fun_mk (st := s_turned_letters) h71 h72 h73).binds (ps := ["letters", "by"]) fun _ _ _ _ _ _ us hl => match us, hl with | [_, _], _ => rfl),
      g_turned_letters := PySem.W.mg_of X G h70,
      a_turn_to := f_turn_to,
      d_turn_to := PySem.W.fnOf "turn_to" "turn_to" (defArgs s_turn_to) (defBody s_turn_to) (defScope s_turn_to) .none kV_turn_to dc_turn_to pm_turn_to an_turn_to cd_turn_to ct_turn_to,
      F_turn_to := (fun_mk (st := s_turn_to) h75 h76 h77),
      b_turn_to := ((fun_mk (st := s_turn_to) h75 h76 h77).binds (ps := ["one", "other"]) fun _ _ _ _ _ _ us hl => match us, hl with | [_, _], _ => rfl),
      g_turn_to := PySem.W.mg_of X G h74,
      a_need_number := f_need_number,
      d_need_number := PySem.W.fnOf "need_number" "need_number" (defArgs s_need_number) (defBody s_need_number) (defScope s_need_number) .none kV_need_number dc_need_number pm_need_number an_need_number cd_need_number ct_need_number,
      F_need_number := (fun_mk (st := s_need_number) h79 h80 h81),
      b_need_number := ((fun_mk (st := s_need_number) h79 h80 h81).binds (ps := ["value", "part", "least", "most"]) fun _ _ _ _ _ _ us hl => match us, hl with | [_, _, _, _], _ => rfl),
      g_need_number := PySem.W.mg_of X G h78,
      a_Word_turned := f_Word_turned,
      d_Word_turned := PySem.W.fnOf "turned" "Word.turned" (defArgs s_Word_turned) (defBody s_Word_turned) (defScope s_Word_turned) .none kV_Word_turned dc_Word_turned pm_Word_turned an_Word_turned cd_Word_turned ct_Word_turned,
      F_Word_turned := (fun_mk (st := s_Word_turned) h84 h85 h86),
      b_Word_turned := ((fun_mk (st := s_Word_turned) h84 h85 h86).binds (ps := ["self", "by"]) fun _ _ _ _ _ _ us hl => match us, hl with | [_, _], _ => rfl),
      a_Word___eq__ := f_Word___eq__,
      d_Word___eq__ := PySem.W.fnOf "__eq__" "Word.__eq__" (defArgs s_Word___eq__) (defBody s_Word___eq__) (defScope s_Word___eq__) .none kV_Word___eq__ dc_Word___eq__ pm_Word___eq__ an_Word___eq__ cd_Word___eq__ ct_Word___eq__,
      F_Word___eq__ := (fun_mk (st := s_Word___eq__) h89 h90 h91),
      b_Word___eq__ := ((fun_mk (st := s_Word___eq__) h89 h90 h91).binds (ps := ["self", "other"]) fun _ _ _ _ _ _ us hl => match us, hl with | [_, _], _ => rfl),
      a_l_pair_right := f_l_pair_right,
      d_l_pair_right := PySem.W.fnOf "_law_pair_right" "_law_pair_right" (defArgs s_l_pair_right) (defBody s_l_pair_right) (defScope s_l_pair_right) .none kV_l_pair_right dc_l_pair_right pm_l_pair_right an_l_pair_right cd_l_pair_right ct_l_pair_right,
      F_l_pair_right := (fun_mk (st := s_l_pair_right) h93 h94 h95),
      b_l_pair_right := ((fun_mk (st := s_l_pair_right) h93 h94 h95).binds (ps := ["_law_letters_here", "_law_others"]) fun _ _ _ _ _ _ us hl => match us, hl with | [_, _], _ => rfl),
      g_l_pair_right := PySem.W.mg_of X G h92,
      a_least_turned := f_least_turned,
      d_least_turned := PySem.W.fnOf "least_turned" "least_turned" (defArgs s_least_turned) (defBody s_least_turned) (defScope s_least_turned) .none kV_least_turned dc_least_turned pm_least_turned an_least_turned cd_least_turned ct_least_turned,
      F_least_turned := (fun_mk (st := s_least_turned) h97 h98 h99),
      b_least_turned := ((fun_mk (st := s_least_turned) h97 h98 h99).binds (ps := ["word"]) fun _ _ _ _ _ _ us hl => match us, hl with | [_], _ => rfl),
      g_least_turned := PySem.W.mg_of X G h96,
      a_l_least_right := f_l_least_right,
      d_l_least_right := PySem.W.fnOf "_law_least_right" "_law_least_right" (defArgs s_l_least_right) (defBody s_l_least_right) (defScope s_l_least_right) .none kV_l_least_right dc_l_least_right pm_l_least_right an_l_least_right cd_l_least_right ct_l_least_right,
      F_l_least_right := (fun_mk (st := s_l_least_right) h101 h102 h103),
      b_l_least_right := ((fun_mk (st := s_l_least_right) h101 h102 h103).binds (ps := ["_law_jar_here", "_law_letters_here"]) fun _ _ _ _ _ _ us hl => match us, hl with | [_, _], _ => rfl),
      g_l_least_right := PySem.W.mg_of X G h100,
      a_Word_then := f_Word_then,
      d_Word_then := PySem.W.fnOf "then" "Word.then" (defArgs s_Word_then) (defBody s_Word_then) (defScope s_Word_then) .none kV_Word_then dc_Word_then pm_Word_then an_Word_then cd_Word_then ct_Word_then,
      F_Word_then := (fun_mk (st := s_Word_then) h106 h107 h108),
      b_Word_then := ((fun_mk (st := s_Word_then) h106 h107 h108).binds (ps := ["self", "other"]) fun _ _ _ _ _ _ us hl => match us, hl with | [_, _], _ => rfl),
      a_contrary_of := f_contrary_of,
      d_contrary_of := PySem.W.fnOf "contrary_of" "contrary_of" (defArgs s_contrary_of) (defBody s_contrary_of) (defScope s_contrary_of) .none kV_contrary_of dc_contrary_of pm_contrary_of an_contrary_of cd_contrary_of ct_contrary_of,
      F_contrary_of := (fun_mk (st := s_contrary_of) h110 h111 h112),
      b_contrary_of := ((fun_mk (st := s_contrary_of) h110 h111 h112).binds (ps := ["letters"]) fun _ _ _ _ _ _ us hl => match us, hl with | [_], _ => rfl),
      g_contrary_of := PySem.W.mg_of X G h109,
      a_Word_contrary := f_Word_contrary,
      d_Word_contrary := PySem.W.fnOf "contrary" "Word.contrary" (defArgs s_Word_contrary) (defBody s_Word_contrary) (defScope s_Word_contrary) .none kV_Word_contrary dc_Word_contrary pm_Word_contrary an_Word_contrary cd_Word_contrary ct_Word_contrary,
      F_Word_contrary := (fun_mk (st := s_Word_contrary) h115 h116 h117),
      b_Word_contrary := ((fun_mk (st := s_Word_contrary) h115 h116 h117).binds (ps := ["self"]) fun _ _ _ _ _ _ us hl => match us, hl with | [_], _ => rfl),
      a_shortened_of := f_shortened_of,
      d_shortened_of := PySem.W.fnOf "shortened_of" "shortened_of" (defArgs s_shortened_of) (defBody s_shortened_of) (defScope s_shortened_of) .none kV_shortened_of dc_shortened_of pm_shortened_of an_shortened_of cd_shortened_of ct_shortened_of,
      F_shortened_of := (fun_mk (st := s_shortened_of) h119 h120 h121),
      b_shortened_of := ((fun_mk (st := s_shortened_of) h119 h120 h121).binds (ps := ["letters"]) fun _ _ _ _ _ _ us hl => match us, hl with | [_], _ => rfl),
      g_shortened_of := PySem.W.mg_of X G h118,
      a_Word_shortened_round := f_Word_shortened_round,
      d_Word_shortened_round := PySem.W.fnOf "shortened_round" "Word.shortened_round" (defArgs s_Word_shortened_round) (defBody s_Word_shortened_round) (defScope s_Word_shortened_round) .none kV_Word_shortened_round dc_Word_shortened_round pm_Word_shortened_round an_Word_shortened_round cd_Word_shortened_round ct_Word_shortened_round,
      F_Word_shortened_round := (fun_mk (st := s_Word_shortened_round) h124 h125 h126),
      b_Word_shortened_round := ((fun_mk (st := s_Word_shortened_round) h124 h125 h126).binds (ps := ["self"]) fun _ _ _ _ _ _ us hl => match us, hl with | [_], _ => rfl),
      a_l_moved_right := f_l_moved_right,
      d_l_moved_right := PySem.W.fnOf "_law_moved_right" "_law_moved_right" (defArgs s_l_moved_right) (defBody s_l_moved_right) (defScope s_l_moved_right) .none kV_l_moved_right dc_l_moved_right pm_l_moved_right an_l_moved_right cd_l_moved_right ct_l_moved_right,
      F_l_moved_right := (fun_mk (st := s_l_moved_right) h128 h129 h130),
      b_l_moved_right := ((fun_mk (st := s_l_moved_right) h128 h129 h130).binds (ps := ["_law_jar_here", "_law_letters_here"]) fun _ _ _ _ _ _ us hl => match us, hl with | [_, _], _ => rfl),
      g_l_moved_right := PySem.W.mg_of X G h127,
      a_law := f_law,
      d_law := PySem.W.fnOf "law" "law" (defArgs s_law) (defBody s_law) (defScope s_law) .none kV_law dc_law pm_law an_law cd_law ct_law,
      F_law := (fun_mk (st := s_law) h132 h133 h134),
      b_law := ((fun_mk (st := s_law) h132 h133 h134).binds (ps := ["_law_script"]) fun _ _ _ _ _ _ us hl => match us, hl with | [_], _ => rfl),
      g_law := PySem.W.mg_of X G h131,
      cls_Word := ⟨h135, h136, h137, h138⟩,
      mk_Word := ⟨h139, h61, h62, h140⟩,
      na_Word_is_short := h141,
      na_Word_is_short_round := h142,
      na_Word_kinds := h143,
      na_Word_length := h144,
      na_Word_letters := h145,
      me_Word_contrary := ⟨h113, h114, h117⟩,
      me_Word_shortened_round := ⟨h122, h123, h126⟩,
      me_Word_then := ⟨h104, h105, h108⟩,
      me_Word_turned := ⟨h82, h83, h86⟩,
      isc_Word := ⟨⟨h135, h136, h137, h138⟩, h146, h147, h148, h149, kit_self⟩,
      eq_Word := h87,
      eqf_Word := h88,
      ne_Word := h150,
      z_abs := PySem.W.mg_none_of X G h151,
      z_all := PySem.W.mg_none_of X G h152,
      z_bool := PySem.W.mg_none_of X G h153,
      z_enumerate := PySem.W.mg_none_of X G h154,
      z_int := PySem.W.mg_none_of X G h155,
      z_isinstance := PySem.W.mg_none_of X G h156,
      z_len := PySem.W.mg_none_of X G h157,
      z_list := PySem.W.mg_none_of X G h158,
      z_max := PySem.W.mg_none_of X G h159,
      z_min := PySem.W.mg_none_of X G h160,
      z_range := PySem.W.mg_none_of X G h161,
      z_sorted := PySem.W.mg_none_of X G h162,
      z_tuple := PySem.W.mg_none_of X G h163,
      z_zip := PySem.W.mg_none_of X G h164,
      c_LAST_KIND := ⟨_, PySem.W.mg_of X G h165⟩,
      c_MOST_LETTERS := ⟨_, PySem.W.mg_of X G h166⟩ }, kV_law, dc_law, pm_law, cd_law, ct_law, an_law, rfl⟩
def spLaw (K : PySem.W.Frag) : Sp := spP (acons (RList K RInt) anil) RBool (fun (y : List Int × Unit) Kf => m_law y.1 Kf)
theorem walkE {l : PySem.W.OpenLaw} {q : Program} {loose : List Str} {XP : (Str → Option Value) → Heap → Prop} {YP : World → Heap → Prop} {d : DefRec} {K : Params → PySem.W.Frag} (hn : l.most = some 63) (hdf : d.params.defaults = [])
    (hY : ∀ (w : World) (h : Heap), YP w h → (K w.params).In h) (hd : d.name = ("law" : Str))
    (F : ∀ (w : World) (mg : Str → Option Value) (h : Heap), (K w.params).In h → h.Ns mainGlobals mg → ∃ (T : Tx (K w.params) mg) (kV dc pm cd ct : Value) (an : Option Addr), T.d_law = PySem.W.fnOf "law" "law" (defArgs s_law) (defBody s_law) (defScope s_law) .none kV dc pm an cd ct) :
    PySem.W.WalkO q loose XP YP l.row.toRowW d [] (fun f vs => PySem.call f vs) :=
  L2.walk_ofB (n := 63) (k := 9) (x := "_law_script") (CX := fun _ => CX0) (sp := fun w => spLaw (K w.params)) hn (by decide) hdf ⟨rfl, by decide, by decide⟩ hY
    (fun w mg fa h KX G hmg => by
      obtain ⟨T, kV, dc, pm, cd, ct, an, e⟩ := F w mg h KX G
      have e1 : some (Value.ref fa) = some (.ref T.a_law) := by rw [← hmg, hd, T.g_law]
      cases e1
      exact ⟨T.d_law, fun s v => by rw [e]; exact .of_eq rfl, fun base _ _ => ok_law T⟩)
    (fun w H a ns hl _ _ hS => ⟨(ns, ()), H, fun r => r = true, ⟨⟨a, _, rfl, hS, AllR.ints.mpr rfl⟩, trivial⟩, Same.refl H, law_true hl, fun r v F' H' hr hv _ _ _ _ => by rw [show v = V.bl r from hv, hr]⟩)
    fun _ _ _ _ _ z => z
end G
open PySem PySem.W PyProof.Rows in
set_option maxRecDepth 100000 in
set_option maxHeartbeats 0 in
theorem PySem.Challenge.cw_handlerims_k06_least_turned_and_turns_th_holds : PySem.Challenge.rw_handlerims_k06_least_turned_and_turns_th.Holds := by
  w_on; o_law; k_head; (case hw => w_witness2)
  k_fill
  refine G.walkE (l := PySem.Challenge.rw_handlerims_k06_least_turned_and_turns_th) rfl rfl (fun w h Y => by first | exact PySem.W.km_in_of Y | exact PySem.W.kIn_of Y) rfl ?F
  case F =>
    intro w mg h KX GN
    refine' G.mk_T KX GN ?h0 ?h1 ?h2 ?h3 ?h4 ?h5 ?h6 ?h7 ?h8 ?h9 ?h10 ?h11 ?h12 ?h13 ?h14 ?h15 ?h16 ?h17 ?h18 ?h19 ?h20 ?h21 ?h22 ?h23 ?h24 ?h25 ?h26 ?h27 ?h28 ?h29 ?h30 ?h31 ?h32 ?h33 ?h34 ?h35 ?h36 ?h37 ?h38 ?h39 ?h40 ?h41 ?h42 ?h43 ?h44 ?h45 ?h46 ?h47 ?h48 ?h49 ?h50 ?h51 ?h52 ?h53 ?h54 ?h55 ?h56 ?h57 ?h58 ?h59 ?h60 ?h61 ?h62 ?h63 ?h64 ?h65 ?h66 ?h67 ?h68 ?h69 ?h70 ?h71 ?h72 ?h73 ?h74 ?h75 ?h76 ?h77 ?h78 ?h79 ?h80 ?h81 ?h82 ?h83 ?h84 ?h85 ?h86 ?h87 ?h88 ?h89 ?h90 ?h91 ?h92 ?h93 ?h94 ?h95 ?h96 ?h97 ?h98 ?h99 ?h100 ?h101 ?h102 ?h103 ?h104 ?h105 ?h106 ?h107 ?h108 ?h109 ?h110 ?h111 ?h112 ?h113 ?h114 ?h115 ?h116 ?h117 ?h118 ?h119 ?h120 ?h121 ?h122 ?h123 ?h124 ?h125 ?h126 ?h127 ?h128 ?h129 ?h130 ?h131 ?h132 ?h133 ?h134 ?h135 ?h136 ?h137 ?h138 ?h139 ?h140 ?h141 ?h142 ?h143 ?h144 ?h145 ?h146 ?h147 ?h148 ?h149 ?h150 ?h151 ?h152 ?h153 ?h154 ?h155 ?h156 ?h157 ?h158 ?h159 ?h160 ?h161 ?h162 ?h163 ?h164 ?h165 ?h166
    (case h0 => k_is)
    (case h1 => k_is)
    (case h2 => k_is)
    (case h3 => k_is)
    (case h4 => k_is)
    (case h5 => k_is)
    (case h6 => k_is)
    (case h7 => k_is)
    (case h8 => k_is)
    (case h9 => k_is)
    (case h10 => k_is)
    (case h11 => k_is)
    (case h12 => k_is)
    (case h13 => k_is)
    (case h14 => k_is)
    (case h15 => k_is)
    (case h16 => k_is)
    (case h17 => k_is)
    (case h18 => k_is)
    (case h19 => k_is)
    (case h20 => k_is)
    (case h21 => k_is)
    (case h22 => k_is)
    (case h23 => k_is)
    (case h24 => k_is)
    (case h25 => k_is)
    (case h26 => k_is)
    (case h27 => k_is)
    (case h28 => k_is)
    (case h29 => k_is)
    (case h30 => k_is)
    (case h31 => k_is)
    (case h32 => k_is)
    (case h33 => k_is)
    (case h34 => k_is)
    (case h35 => k_is)
    (case h36 => k_is)
    (case h37 => k_is)
    (case h38 => k_is)
    (case h39 => k_is)
    (case h40 => k_is)
    (case h41 => k_is)
    (case h42 => k_is)
    (case h43 => k_is)
    (case h44 => k_is)
    (case h45 => k_is)
    (case h46 => k_is)
    (case h47 => k_is)
    (case h48 => k_is)
    (case h49 => k_is)
    (case h50 => k_is)
    (case h51 => k_is)
    (case h52 => k_is)
    (case h53 => k_is)
    (case h54 => k_is)
    (case h55 => k_is)
    (case h56 => k_is)
    (case h57 => k_is)
    (case h58 => k_is)
    (case h59 => k_is)
    (case h60 => k_is)
    (case h61 => k_is)
    (case h62 => k_is)
    (case h63 => k_is)
    (case h64 => k_is)
    (case h65 => k_is)
    (case h66 => k_is)
    (case h67 => k_is)
    (case h68 => k_is)
    (case h69 => k_is)
    (case h70 => k_is)
    (case h71 => k_is)
    (case h72 => k_is)
    (case h73 => k_is)
    (case h74 => k_is)
    (case h75 => k_is)
    (case h76 => k_is)
    (case h77 => k_is)
    (case h78 => k_is)
    (case h79 => k_is)
    (case h80 => k_is)
    (case h81 => k_is)
    (case h82 => k_is)
    (case h83 => k_is)
    (case h84 => k_is)
    (case h85 => k_is)
    (case h86 => k_is)
    (case h87 => k_is)
    (case h88 => k_is)
    (case h89 => k_is)
    (case h90 => k_is)
    (case h91 => k_is)
    (case h92 => k_is)
    (case h93 => k_is)
    (case h94 => k_is)
    (case h95 => k_is)
    (case h96 => k_is)
    (case h97 => k_is)
    (case h98 => k_is)
    (case h99 => k_is)
    (case h100 => k_is)
    (case h101 => k_is)
    (case h102 => k_is)
    (case h103 => k_is)
    (case h104 => k_is)
    (case h105 => k_is)
    (case h106 => k_is)
    (case h107 => k_is)
    (case h108 => k_is)
    (case h109 => k_is)
    (case h110 => k_is)
    (case h111 => k_is)
    (case h112 => k_is)
    (case h113 => k_is)
    (case h114 => k_is)
    (case h115 => k_is)
    (case h116 => k_is)
    (case h117 => k_is)
    (case h118 => k_is)
    (case h119 => k_is)
    (case h120 => k_is)
    (case h121 => k_is)
    (case h122 => k_is)
    (case h123 => k_is)
    (case h124 => k_is)
    (case h125 => k_is)
    (case h126 => k_is)
    (case h127 => k_is)
    (case h128 => k_is)
    (case h129 => k_is)
    (case h130 => k_is)
    (case h131 => k_is)
    (case h132 => k_is)
    (case h133 => k_is)
    (case h134 => k_is)
    (case h135 => k_is)
    (case h136 => k_is)
    (case h137 => k_is)
    (case h138 => k_is)
    (case h139 => k_is)
    (case h140 => k_is)
    (case h141 => k_is)
    (case h142 => k_is)
    (case h143 => k_is)
    (case h144 => k_is)
    (case h145 => k_is)
    (case h146 => k_is)
    (case h147 => k_is)
    (case h148 => k_is)
    (case h149 => k_is)
    (case h150 => k_is)
    (case h151 => k_is)
    (case h152 => k_is)
    (case h153 => k_is)
    (case h154 => k_is)
    (case h155 => k_is)
    (case h156 => k_is)
    (case h157 => k_is)
    (case h158 => k_is)
    (case h159 => k_is)
    (case h160 => k_is)
    (case h161 => k_is)
    (case h162 => k_is)
    (case h163 => k_is)
    (case h164 => k_is)
    (case h165 => k_is)
    (case h166 => k_is)
