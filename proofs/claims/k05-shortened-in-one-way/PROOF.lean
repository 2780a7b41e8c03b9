import PyProof.Rows.All
import Wide.All
import OpenK.AllK
import Wide.FinOn
import PyProof.EqAt
import PyProof.EqKinds
import PyProof.TupleCall
import HandS.ForMost
import HandS.TupAny
import HandS.TupMul
import HandS.Wide
import HandS.TupLe
import HandS.Style
import HandS.SortInts
import HandS.Zip
import HandS.EndBits
import HandS.IsInst
import HandS.Codes
import HandS.OwnEq
import HandS.SetBool
import HandS.Strs
import HandS.Deep
import PySem.Challenge.RW_handlerims_k05_shortened_in_one_way
set_option Elab.async false
set_option linter.all false
set_option maxRecDepth 100000
set_option maxHeartbeats 4000000
/-! a typed layer over the judgements: what is known of the values (frozen), what is owned (changed in place) -/
namespace TL
open PySem L2

/-- what is known of a value; it stays as the known part grows -/
structure Pd where
  p : V → Hp → Prop
  mono : ∀ v F F', Same F F' → p v F → p v F'
/-- what is known of an owned object, over the known part -/
structure Od where
  p : HO → Hp → Prop
  mono : ∀ o F F', Same F F' → p o F → p o F'
inductive Sl where
  | any
  | im (P : Pd)
  | ow (O : Od)
  | bo (j : Addr) (O : Od)

/-- the base: what is known, what stands, at the def's entry; what was lent to it -/
structure Bs where
  F : Hp
  H : Hp
  bor : Addr → Prop
  /-- what is walked around here: known all through -/
  pins : List (V × Pd)

def SlOk (B : Bs) (F H : Hp) : Sl → Option V → Prop
  | .any, _ => True
  | .im P, x => ∃ v, x = some v ∧ P.p v F
  | .ow O, x => ∃ p o, x = some (.ref p) ∧ F p = none ∧ H p = some o ∧ O.p o F ∧ B.H p = none
  | .bo j O, x => ∃ o, x = some (.ref j) ∧ F j = none ∧ H j = some o ∧ O.p o F ∧ B.bor j
def Fits (B : Bs) (F H : Hp) : List Sl → L2.St → Prop
  | [], [] => True
  | s :: Γ, x :: σ => SlOk B F H s x ∧ Fits B F H Γ σ
  | _, _ => False
/-- the owned addresses -/
def ownS : Sl → Option V → List Addr
  | .ow _, some (.ref p) => [p]
  | .bo _ _, some (.ref p) => [p]
  | _, _ => []
def owA : List Sl → L2.St → List Addr
  | s :: Γ, x :: σ => ownS s x ++ owA Γ σ
  | _, _ => []
structure At (B : Bs) (Γ : List Sl) (σ : L2.St) (F H : Hp) : Prop where
  sub : Same F H
  ext : Same B.F F
  kept : ∀ a o, B.H a = some o → ¬ B.bor a → H a = some o
  new : ∀ a o, F a = some o → B.F a = some o ∨ B.H a = none
  fit : Fits B F H Γ σ
  dis : (owA Γ σ).Nodup
  bob : ∀ a, B.bor a → F a = none ∧ (∃ o, H a = some o) ∧ ∃ o, B.H a = some o
  pin : ∀ q ∈ B.pins, q.2.p q.1 F
/-- what is known anew is new -/
def Nw (F H F' : Hp) : Prop := ∀ a o, F' a = some o → F a = some o ∨ H a = none

section
variable {B : Bs} {Γ Γ' : List Sl} {σ : L2.St} {F F' H H' : Hp}

theorem same_upd {H : Hp} {p : Addr} {o : HO} (h : H p = none) : Same H (upd H p o) := fun a u e => by
  rw [upd_ne (ne_of_none e h)]
  exact e
theorem Nw.refl : Nw F H F := fun _ _ h => .inl h
theorem Nw.no (n : Nw F H F') {a : Addr} (h1 : F a = none) {o : HO} (h2 : H a = some o) : F' a = none := by
  cases q : F' a with
  | none => rfl
  | some u =>
    rcases n a u q with z | z
    · rw [h1] at z; cases z
    · rw [h2] at z; cases z
theorem SlOk.grow {s : Sl} {x : Option V} (h : SlOk B F H s x) (e : Same F F') (eH : Same H H') (nw : Nw F H F') : SlOk B F' H' s x := by
  cases s with
  | any => trivial
  | im P => obtain ⟨v, h1, h2⟩ := h; exact ⟨v, h1, P.mono _ _ _ e h2⟩
  | ow O => obtain ⟨p, o, h1, h2, h3, h4, h5⟩ := h; exact ⟨p, o, h1, nw.no h2 h3, eH _ _ h3, O.mono _ _ _ e h4, h5⟩
  | bo j O => obtain ⟨o, h1, h2, h3, h4, h5⟩ := h; exact ⟨o, h1, nw.no h2 h3, eH _ _ h3, O.mono _ _ _ e h4, h5⟩
theorem Fits.grow : ∀ {Γ : List Sl} {σ : L2.St}, Fits B F H Γ σ → Same F F' → Same H H' → Nw F H F' → Fits B F' H' Γ σ
  | [], [], _, _, _, _ => trivial
  | _ :: _, _ :: _, h, e, eH, fr => ⟨h.1.grow e eH fr, Fits.grow h.2 e eH fr⟩
/-- both parts grow, by what is new -/
theorem At.grow (h : At B Γ σ F H) (e : Same F F') (eH : Same H H') (s : Same F' H') (nw : Nw F H F') : At B Γ σ F' H' := by
  refine ⟨s, h.ext.trans e, fun a o q n => eH _ _ (h.kept a o q n), fun a o q => ?_, h.fit.grow e eH nw, h.dis, fun a hb => ?_, fun q hq => q.2.mono _ _ _ e (h.pin q hq)⟩
  · rcases nw a o q with z | z
    · exact h.new a o z
    · right
      cases q2 : B.H a with
      | none => rfl
      | some u =>
        by_cases hb : B.bor a
        · obtain ⟨_, ⟨o2, h2⟩, _⟩ := h.bob a hb
          rw [z] at h2; cases h2
        · rw [h.kept a u q2 hb] at z; cases z
  · obtain ⟨h1, ⟨o, h2⟩, h3⟩ := h.bob a hb
    exact ⟨nw.no h1 h2, ⟨o, eH _ _ h2⟩, h3⟩
theorem At.len (h : At B Γ σ F H) : σ.length = Γ.length := by
  have go : ∀ (Γ : List Sl) (σ : L2.St), Fits B F H Γ σ → σ.length = Γ.length := by
    intro Γ
    induction Γ with
    | nil => intro σ h; cases σ with | nil => rfl | cons => exact h.elim
    | cons s Γ ih => intro σ h; cases σ with | nil => exact h.elim | cons x σ => simp [ih σ h.2]
  exact go Γ σ h.fit
theorem Fits.get : ∀ {Γ : List Sl} {σ : L2.St} {i : Nat} {s : Sl}, Fits B F H Γ σ → Γ[i]? = some s → ∃ x, σ[i]? = some x ∧ SlOk B F H s x
  | s :: Γ, x :: σ, 0, s', h, e => by simp at e; subst e; exact ⟨x, rfl, h.1⟩
  | s :: Γ, x :: σ, i + 1, s', h, e => by
    obtain ⟨y, h1, h2⟩ := Fits.get (i := i) h.2 (by simpa using e)
    exact ⟨y, by simpa using h1, h2⟩
  | [], _, i, s', h, e => by simp at e
  | s :: Γ, [], i, s', h, e => h.elim
theorem Fits.set : ∀ {Γ : List Sl} {σ : L2.St} {i : Nat} {s : Sl} {x : Option V}, Fits B F H Γ σ → SlOk B F H s x → Fits B F H (Γ.set i s) (σ.set i x)
  | [], [], _, _, _, h, _ => h
  | _ :: _, _ :: _, 0, _, _, h, k => ⟨k, h.2⟩
  | _ :: _, _ :: _, i + 1, _, _, h, k => ⟨h.1, Fits.set h.2 k⟩
  | [], _ :: _, _, _, _, h, _ => h.elim
  | _ :: _, [], _, _, _, h, _ => h.elim
theorem ownS_any {x : Option V} : ownS .any x = [] := rfl
theorem ownS_im {P : Pd} {x : Option V} : ownS (.im P) x = [] := rfl
theorem owA_set_sub : ∀ {Γ : List Sl} {σ : L2.St} {i : Nat} {s : Sl} {x : Option V}, ownS s x = [] → (owA (Γ.set i s) (σ.set i x)).Sublist (owA Γ σ)
  | [], σ, i, s, x, _ => by simp [owA]
  | s0 :: Γ, [], i, s, x, _ => by cases i <;> simp [owA]
  | s0 :: Γ, y :: σ, 0, s, x, h => by
    show (ownS s x ++ owA Γ σ).Sublist (ownS s0 y ++ owA Γ σ)
    rw [h]
    exact List.sublist_append_right _ _
  | s0 :: Γ, y :: σ, i + 1, s, x, h => by
    show (ownS s0 y ++ owA (Γ.set i s) (σ.set i x)).Sublist (ownS s0 y ++ owA Γ σ)
    exact List.Sublist.append (List.Sublist.refl _) (owA_set_sub h)
theorem mem_owA_set : ∀ {Γ : List Sl} {σ : L2.St} {i : Nat} {s : Sl} {x : Option V} {q : Addr}, q ∈ owA (Γ.set i s) (σ.set i x) → q ∈ ownS s x ∨ q ∈ owA Γ σ
  | [], σ, i, s, x, q, h => by simp [owA] at h
  | s0 :: Γ, [], i, s, x, q, h => by cases i <;> simp [owA] at h
  | s0 :: Γ, y :: σ, 0, s, x, q, h => by
    have h : q ∈ ownS s x ++ owA Γ σ := h
    rcases List.mem_append.mp h with h | h
    · exact .inl h
    · exact .inr (List.mem_append_right _ h)
  | s0 :: Γ, y :: σ, i + 1, s, x, q, h => by
    have h : q ∈ ownS s0 y ++ owA (Γ.set i s) (σ.set i x) := h
    rcases List.mem_append.mp h with h | h
    · exact .inr (List.mem_append_left _ h)
    · rcases mem_owA_set h with h | h
      · exact .inl h
      · exact .inr (List.mem_append_right _ h)
/-- an owned address stands in H, is not known, and is new or lent -/
theorem Fits.owned : ∀ {Γ : List Sl} {σ : L2.St} {q : Addr}, Fits B F H Γ σ → q ∈ owA Γ σ → F q = none ∧ (∃ o, H q = some o) ∧ (B.H q = none ∨ B.bor q)
  | [], _, q, _, h => by simp [owA] at h
  | _ :: _, [], q, _, h => by simp [owA] at h
  | s :: Γ, x :: σ, q, f, h => by
    have h : q ∈ ownS s x ++ owA Γ σ := h
    rcases List.mem_append.mp h with h | h
    · cases s with
      | any => simp [ownS] at h
      | im P => simp [ownS] at h
      | ow O =>
        obtain ⟨p, o, h1, h2, h3, h4, h5⟩ := f.1
        subst h1
        have e : q = p := by simpa [ownS] using h
        subst e
        exact ⟨h2, ⟨o, h3⟩, .inl h5⟩
      | bo j O =>
        obtain ⟨o, h1, h2, h3, h4, h5⟩ := f.1
        subst h1
        have e : q = j := by simpa [ownS] using h
        subst e
        exact ⟨h2, ⟨o, h3⟩, .inr h5⟩
    · exact Fits.owned f.2 h
theorem At.notOwn (h : At B Γ σ F H) {p : Addr} (hp : H p = none) : p ∉ owA Γ σ := fun hm => by
  obtain ⟨_, ⟨o, e⟩, _⟩ := h.fit.owned hm
  rw [hp] at e; cases e
theorem At.fresh (h : At B Γ σ F H) {p : Addr} (hp : H p = none) : F p = none ∧ B.H p = none := by
  refine ⟨?_, ?_⟩
  · cases q : F p with
    | none => rfl
    | some o => rw [h.sub _ _ q] at hp; cases hp
  · cases q : B.H p with
    | none => rfl
    | some o =>
      by_cases hb : B.bor p
      · obtain ⟨_, ⟨o, e⟩, _⟩ := h.bob p hb
        rw [hp] at e; cases e
      · rw [h.kept _ _ q hb] at hp; cases hp
/-- a new object, known from now on -/
theorem At.lay (h : At B Γ σ F H) {p : Addr} {o : HO} (hp : H p = none) : At B Γ σ (upd F p o) (upd H p o) ∧ Same F (upd F p o) := by
  have f := h.fresh hp
  refine ⟨h.grow (same_upd f.1) (same_upd hp) (fun a u e => ?_) (fun a u e => ?_), same_upd f.1⟩
  · by_cases ha : a = p
    · subst ha; rw [upd_same] at e ⊢; exact e
    · rw [upd_ne ha] at e ⊢; exact h.sub _ _ e
  · by_cases ha : a = p
    · subst ha; exact .inr hp
    · rw [upd_ne ha] at e; exact .inl e
/-- a new object, not known -/
theorem At.layH (h : At B Γ σ F H) {p : Addr} {o : HO} (hp : H p = none) : At B Γ σ F (upd H p o) :=
  h.grow (Same.refl F) (same_upd hp) (h.sub.trans (same_upd hp)) Nw.refl
theorem At.im (h : At B Γ σ F H) {i : Nat} {P : Pd} (e : Γ[i]? = some (.im P)) : ∃ v, σ[i]? = some (some v) ∧ P.p v F := by
  obtain ⟨x, h1, v, h2, h3⟩ := h.fit.get e
  exact ⟨v, h2 ▸ h1, h3⟩
theorem At.setIm (h : At B Γ σ F H) {i : Nat} {P : Pd} {v : V} (hv : P.p v F) : At B (Γ.set i (.im P)) (σ.set i (some v)) F H :=
  ⟨h.sub, h.ext, h.kept, h.new, h.fit.set ⟨v, rfl, hv⟩, h.dis.sublist (owA_set_sub rfl), h.bob, h.pin⟩
theorem At.setAny (h : At B Γ σ F H) {i : Nat} {x : Option V} : At B (Γ.set i .any) (σ.set i x) F H :=
  ⟨h.sub, h.ext, h.kept, h.new, h.fit.set trivial, h.dis.sublist (owA_set_sub rfl), h.bob, h.pin⟩
theorem nodup_set : ∀ {Γ : List Sl} {σ : L2.St} {i : Nat} {O : Od} {p : Addr}, (owA Γ σ).Nodup → p ∉ owA Γ σ → (owA (Γ.set i (.ow O)) (σ.set i (some (.ref p)))).Nodup
  | [], σ, i, O, p, h, n => by simp [owA]
  | s :: Γ, [], i, O, p, h, n => by cases i <;> simp [owA]
  | s :: Γ, x :: σ, 0, O, p, h, n => by
    show ([p] ++ owA Γ σ).Nodup
    have h : (ownS s x ++ owA Γ σ).Nodup := h
    have n : p ∉ ownS s x ++ owA Γ σ := n
    have h2 := (List.nodup_append.mp h).2.1
    exact List.nodup_cons.mpr ⟨fun z => n (List.mem_append_right _ z), h2⟩
  | s :: Γ, x :: σ, i + 1, O, p, h, n => by
    show (ownS s x ++ owA (Γ.set i (.ow O)) (σ.set i (some (.ref p)))).Nodup
    have h : (ownS s x ++ owA Γ σ).Nodup := h
    have n : p ∉ ownS s x ++ owA Γ σ := n
    obtain ⟨h1, h2, h3⟩ := List.nodup_append.mp h
    refine List.nodup_append.mpr ⟨h1, nodup_set h2 fun z => n (List.mem_append_right _ z), fun a ha b hb => ?_⟩
    rcases mem_owA_set hb with z | z
    · have e : b = p := by simpa [ownS] using z
      rintro rfl
      exact n (List.mem_append_left _ (e ▸ ha))
    · exact h3 a ha b z
theorem At.setOw (h : At B Γ σ F H) {i : Nat} {O : Od} {p : Addr} {o : HO} (f : F p = none) (hp : H p = some o) (b : B.H p = none) (n : p ∉ owA Γ σ) (ho : O.p o F) : At B (Γ.set i (.ow O)) (σ.set i (some (.ref p))) F H :=
  ⟨h.sub, h.ext, h.kept, h.new, h.fit.set ⟨p, o, rfl, f, hp, ho, b⟩, nodup_set h.dis n, h.bob, h.pin⟩

/-! ### an owned object is changed -/
theorem fits_upd {Γ : List Sl} {σ : L2.St} {p : Addr} {o : HO} (h : Fits B F H Γ σ) (n : p ∉ owA Γ σ) : Fits B F (upd H p o) Γ σ := by
  induction Γ generalizing σ with
  | nil => cases σ with | nil => trivial | cons => exact h.elim
  | cons s Γ ih =>
    cases σ with
    | nil => exact h.elim
    | cons x σ =>
      have n : p ∉ ownS s x ++ owA Γ σ := n
      refine ⟨?_, ih h.2 fun z => n (List.mem_append_right _ z)⟩
      have h1 := h.1
      cases s with
      | any => trivial
      | im P => exact h1
      | ow O =>
        obtain ⟨q, o', e1, e2, e3, e4, e5⟩ := h1
        subst e1
        have nq : q ≠ p := fun z => n (List.mem_append_left _ (by simp [ownS, z]))
        exact ⟨q, o', rfl, e2, (upd_ne nq).trans e3, e4, e5⟩
      | bo j O =>
        obtain ⟨o', e1, e2, e3, e4, e5⟩ := h1
        subst e1
        have nq : j ≠ p := fun z => n (List.mem_append_left _ (by simp [ownS, z]))
        exact ⟨o', rfl, e2, (upd_ne nq).trans e3, e4, e5⟩
theorem mem_owA_of : ∀ {Γ : List Sl} {σ : L2.St} {i : Nat} {O : Od} {p : Addr}, Γ[i]? = some (.ow O) → σ[i]? = some (some (.ref p)) → p ∈ owA Γ σ
  | [], _, _, _, _, e, _ => by simp at e
  | _ :: _, [], _, _, _, _, e => by simp at e
  | s :: Γ, x :: σ, 0, O, p, e, e2 => by
    simp at e e2
    subst e; subst e2
    exact List.mem_append_left _ (by simp [ownS])
  | s :: Γ, x :: σ, i + 1, O, p, e, e2 => List.mem_append_right _ (mem_owA_of (i := i) (by simpa using e) (by simpa using e2))
theorem fits_write : ∀ {Γ : List Sl} {σ : L2.St} {i : Nat} {O O' : Od} {p : Addr} {o : HO}, Fits B F H Γ σ → (owA Γ σ).Nodup → Γ[i]? = some (.ow O) → σ[i]? = some (some (.ref p)) → O'.p o F → Fits B F (upd H p o) (Γ.set i (.ow O')) σ
  | [], _, _, _, _, _, _, _, _, e, _, _ => by simp at e
  | s :: Γ, [], _, _, _, _, _, h, _, _, _, _ => h.elim
  | s :: Γ, x :: σ, 0, O, O', p, o, h, nd, e, e2, ho => by
    simp at e e2
    subst e; subst e2
    obtain ⟨q, o', z1, z2, z3, z4, z5⟩ := h.1
    cases z1
    have nd : ([p] ++ owA Γ σ).Nodup := nd
    exact ⟨⟨p, o, rfl, z2, upd_same, ho, z5⟩, fits_upd h.2 (List.nodup_cons.mp nd).1⟩
  | s :: Γ, x :: σ, i + 1, O, O', p, o, h, nd, e, e2, ho => by
    have nd : (ownS s x ++ owA Γ σ).Nodup := nd
    obtain ⟨n1, n2, n3⟩ := List.nodup_append.mp nd
    have e' : Γ[i]? = some (.ow O) := by simpa using e
    have e2' : σ[i]? = some (some (.ref p)) := by simpa using e2
    have hm : p ∈ owA Γ σ := mem_owA_of e' e2'
    refine ⟨?_, fits_write h.2 n2 e' e2' ho⟩
    have one : Fits B F H [s] [x] := ⟨h.1, trivial⟩
    have := fits_upd (o := o) one (p := p) (by
      show p ∉ ownS s x ++ []
      rw [List.append_nil]
      exact fun z => n3 p z p hm rfl)
    exact this.1
theorem owA_set_ow : ∀ {Γ : List Sl} {σ : L2.St} {i : Nat} {O O' : Od}, Γ[i]? = some (.ow O) → owA (Γ.set i (.ow O')) σ = owA Γ σ
  | [], _, _, _, _, e => by simp at e
  | s :: Γ, [], i, _, _, e => by cases i <;> rfl
  | s :: Γ, x :: σ, 0, O, O', e => by
    simp at e
    subst e
    show ownS _ x ++ owA Γ σ = ownS _ x ++ owA Γ σ
    cases x with
    | none => rfl
    | some v => cases v <;> rfl
  | s :: Γ, x :: σ, i + 1, O, O', e => by
    show ownS s x ++ owA (Γ.set i _) σ = ownS s x ++ owA Γ σ
    rw [owA_set_ow (by simpa using e)]
theorem At.ow (h : At B Γ σ F H) {i : Nat} {O : Od} (e : Γ[i]? = some (.ow O)) : ∃ p o, σ[i]? = some (some (.ref p)) ∧ F p = none ∧ H p = some o ∧ O.p o F ∧ B.H p = none := by
  obtain ⟨x, h1, p, o, h2, h3⟩ := h.fit.get e
  exact ⟨p, o, h2 ▸ h1, h3⟩
theorem At.write (h : At B Γ σ F H) {i : Nat} {O O' : Od} {p : Addr} {o : HO} (e : Γ[i]? = some (.ow O)) (e2 : σ[i]? = some (some (.ref p))) (ho : O'.p o F) : At B (Γ.set i (.ow O')) σ F (upd H p o) := by
  obtain ⟨q, o', z1, z2, z3, z4, z5⟩ := h.ow e
  rw [e2] at z1
  cases z1
  refine ⟨fun a u g => ?_, h.ext, fun a u g n => ?_, h.new, fits_write h.fit h.dis e e2 ho, by rw [owA_set_ow e]; exact h.dis, fun a hb => ?_, h.pin⟩
  · have na : a ≠ p := fun z => by rw [z, z2] at g; cases g
    rw [upd_ne na]; exact h.sub _ _ g
  · have na : a ≠ p := fun z => by rw [z, z5] at g; cases g
    rw [upd_ne na]; exact h.kept _ _ g n
  · obtain ⟨h1, ⟨u, h2⟩, h3⟩ := h.bob a hb
    by_cases na : a = p
    · subst na; exact ⟨h1, ⟨o, upd_same⟩, h3⟩
    · exact ⟨h1, ⟨u, (upd_ne na).trans h2⟩, h3⟩
/-! the same for what was lent -/
theorem fits_writeB : ∀ {Γ : List Sl} {σ : L2.St} {i : Nat} {O O' : Od} {j : Addr} {o : HO}, Fits B F H Γ σ → (owA Γ σ).Nodup → Γ[i]? = some (.bo j O) → O'.p o F → Fits B F (upd H j o) (Γ.set i (.bo j O')) σ ∧ j ∈ owA Γ σ
  | [], _, _, _, _, _, _, _, _, e, _ => by simp at e
  | s :: Γ, [], _, _, _, _, _, h, _, _, _ => h.elim
  | s :: Γ, x :: σ, 0, O, O', j, o, h, nd, e, ho => by
    simp at e
    subst e
    obtain ⟨o', z1, z2, z3, z4, z5⟩ := h.1
    subst z1
    have nd : ([j] ++ owA Γ σ).Nodup := nd
    exact ⟨⟨⟨o, rfl, z2, upd_same, ho, z5⟩, fits_upd h.2 (List.nodup_cons.mp nd).1⟩, List.mem_append_left _ (by simp [ownS])⟩
  | s :: Γ, x :: σ, i + 1, O, O', j, o, h, nd, e, ho => by
    have nd : (ownS s x ++ owA Γ σ).Nodup := nd
    obtain ⟨n1, n2, n3⟩ := List.nodup_append.mp nd
    obtain ⟨r1, r2⟩ := fits_writeB h.2 n2 (i := i) (by simpa using e) ho
    have one : Fits B F H [s] [x] := ⟨h.1, trivial⟩
    have := fits_upd (o := o) one (p := j) (by
      show j ∉ ownS s x ++ []
      rw [List.append_nil]
      exact fun z => n3 j z j r2 rfl)
    exact ⟨⟨this.1, r1⟩, List.mem_append_right _ r2⟩
theorem owA_set_bo : ∀ {Γ : List Sl} {σ : L2.St} {i : Nat} {O O' : Od} {j : Addr}, Γ[i]? = some (.bo j O) → owA (Γ.set i (.bo j O')) σ = owA Γ σ
  | [], _, _, _, _, _, e => by simp at e
  | s :: Γ, [], i, _, _, _, e => by cases i <;> rfl
  | s :: Γ, x :: σ, 0, O, O', j, e => by
    simp at e
    subst e
    show ownS _ x ++ owA Γ σ = ownS _ x ++ owA Γ σ
    cases x with
    | none => rfl
    | some v => cases v <;> rfl
  | s :: Γ, x :: σ, i + 1, O, O', j, e => by
    show ownS s x ++ owA (Γ.set i _) σ = ownS s x ++ owA Γ σ
    rw [owA_set_bo (by simpa using e)]
theorem At.bo (h : At B Γ σ F H) {i : Nat} {j : Addr} {O : Od} (e : Γ[i]? = some (.bo j O)) : ∃ o, σ[i]? = some (some (.ref j)) ∧ F j = none ∧ H j = some o ∧ O.p o F ∧ B.bor j := by
  obtain ⟨x, h1, o, h2, h3⟩ := h.fit.get e
  exact ⟨o, h2 ▸ h1, h3⟩
theorem At.writeB (h : At B Γ σ F H) {i : Nat} {j : Addr} {O O' : Od} {o : HO} (e : Γ[i]? = some (.bo j O)) (ho : O'.p o F) : At B (Γ.set i (.bo j O')) σ F (upd H j o) := by
  obtain ⟨o', z1, z2, z3, z4, z5⟩ := h.bo e
  refine ⟨fun a u g => ?_, h.ext, fun a u g n => ?_, h.new, (fits_writeB h.fit h.dis e ho).1, by rw [owA_set_bo e]; exact h.dis, fun a hb => ?_, h.pin⟩
  · have na : a ≠ j := fun z => by rw [z, z2] at g; cases g
    rw [upd_ne na]; exact h.sub _ _ g
  · have na : a ≠ j := fun z => n (z ▸ z5)
    rw [upd_ne na]; exact h.kept _ _ g n
  · obtain ⟨h1, ⟨u, h2⟩, h3⟩ := h.bob a hb
    by_cases na : a = j
    · subst na; exact ⟨h1, ⟨o, upd_same⟩, h3⟩
    · exact ⟨h1, ⟨u, (upd_ne na).trans h2⟩, h3⟩
/-- slots forgotten -/
inductive Le : List Sl → List Sl → Prop
  | nil : Le [] []
  | same {s Γ Γ'} : Le Γ Γ' → Le (s :: Γ) (s :: Γ')
  | drop {s Γ Γ'} : Le Γ Γ' → Le (s :: Γ) (.any :: Γ')
theorem Le.rfl' : ∀ {Γ : List Sl}, Le Γ Γ
  | [] => .nil
  | _ :: _ => .same Le.rfl'
theorem Le.fits : ∀ {Γ Γ' : List Sl} {σ : L2.St}, Le Γ Γ' → Fits B F H Γ σ → Fits B F H Γ' σ ∧ (owA Γ' σ).Sublist (owA Γ σ)
  | _, _, [], .nil, h => ⟨h, .slnil⟩
  | _, _, x :: σ, .same l, h => by
    obtain ⟨h1, h2⟩ := Le.fits l h.2
    exact ⟨⟨h.1, h1⟩, List.Sublist.append (List.Sublist.refl _) h2⟩
  | _, _, x :: σ, .drop l, h => by
    obtain ⟨h1, h2⟩ := Le.fits l h.2
    exact ⟨⟨trivial, h1⟩, by
      show ([] ++ owA _ σ).Sublist _
      exact List.Sublist.append (List.nil_sublist _) h2⟩
theorem At.le (h : At B Γ σ F H) (l : Le Γ Γ') : At B Γ' σ F H := by
  obtain ⟨h1, h2⟩ := l.fits h.fit
  exact ⟨h.sub, h.ext, h.kept, h.new, h1, h.dis.sublist h2, h.bob, h.pin⟩
/-- an address that nobody owns, standing in H, is known from now on -/
theorem fits_know {Γ : List Sl} {σ : L2.St} {p : Addr} {o : HO} (sF : Same F (upd F p o)) (h : Fits B F H Γ σ) (n : p ∉ owA Γ σ) : Fits B (upd F p o) H Γ σ := by
  induction Γ generalizing σ with
  | nil => cases σ with | nil => trivial | cons => exact h.elim
  | cons sl Γ ih =>
    cases σ with
    | nil => exact h.elim
    | cons x σ =>
      have n : p ∉ ownS sl x ++ owA Γ σ := n
      refine ⟨?_, ih h.2 fun z => n (List.mem_append_right _ z)⟩
      have h1 := h.1
      cases sl with
      | any => trivial
      | im P => obtain ⟨v, z1, z2⟩ := h1; exact ⟨v, z1, P.mono _ _ _ sF z2⟩
      | ow O =>
        obtain ⟨q, o', e1, e2, e3, e4, e5⟩ := h1
        subst e1
        have nq : q ≠ p := fun z => n (List.mem_append_left _ (by simp [ownS, z]))
        exact ⟨q, o', rfl, (upd_ne nq).trans e2, e3, O.mono _ _ _ sF e4, e5⟩
      | bo j O =>
        obtain ⟨o', e1, e2, e3, e4, e5⟩ := h1
        subst e1
        have nq : j ≠ p := fun z => n (List.mem_append_left _ (by simp [ownS, z]))
        exact ⟨o', rfl, (upd_ne nq).trans e2, e3, O.mono _ _ _ sF e4, e5⟩
theorem At.know (A : At B Γ σ F H) {p : Addr} {o : HO} (fp : F p = none) (hp : H p = some o) (bp : B.H p = none) (n : p ∉ owA Γ σ) : At B Γ σ (upd F p o) H ∧ Same F (upd F p o) := by
  have sF : Same F (upd F p o) := same_upd fp
  refine ⟨⟨fun a u g => ?_, A.ext.trans sF, A.kept, fun a u g => ?_, fits_know sF A.fit n, A.dis, fun a hb => ?_, fun q hq => q.2.mono _ _ _ sF (A.pin q hq)⟩, sF⟩
  · by_cases ha : a = p
    · subst ha; rw [upd_same] at g; cases g; exact hp
    · rw [upd_ne ha] at g; exact A.sub _ _ g
  · by_cases ha : a = p
    · subst ha; exact .inr bp
    · rw [upd_ne ha] at g; exact A.new _ _ g
  · obtain ⟨h1, h2, o3, h3⟩ := A.bob a hb
    have na : a ≠ p := fun z => by rw [z, bp] at h3; cases h3
    exact ⟨(upd_ne na).trans h1, h2, o3, h3⟩
theorem owA_any_sub : ∀ {Γ : List Sl} {σ : L2.St} {i : Nat}, (owA (Γ.set i .any) σ).Sublist (owA Γ σ)
  | [], σ, i => by simp [owA]
  | s0 :: Γ, [], i => by cases i <;> simp [owA]
  | s0 :: Γ, y :: σ, 0 => List.sublist_append_right _ _
  | s0 :: Γ, y :: σ, i + 1 => List.Sublist.append (List.Sublist.refl _) owA_any_sub
theorem Fits.forget : ∀ {Γ : List Sl} {σ : L2.St} {i : Nat}, Fits B F H Γ σ → Fits B F H (Γ.set i .any) σ
  | [], [], _, h => h
  | _ :: _, _ :: _, 0, h => ⟨trivial, h.2⟩
  | _ :: _, _ :: _, i + 1, h => ⟨h.1, Fits.forget h.2⟩
  | [], _ :: _, _, h => h.elim
  | _ :: _, [], _, h => h.elim
theorem At.forget (h : At B Γ σ F H) {i : Nat} : At B (Γ.set i .any) σ F H := ⟨h.sub, h.ext, h.kept, h.new, h.fit.forget, h.dis.sublist owA_any_sub, h.bob, h.pin⟩
theorem Fits.reset : ∀ {Γ : List Sl} {σ : L2.St} {i : Nat} {s : Sl} {x : Option V}, Fits B F H Γ σ → σ[i]? = some x → SlOk B F H s x → Fits B F H (Γ.set i s) σ
  | [], [], _, _, _, h, _, _ => h
  | _ :: _, _ :: _, 0, _, _, h, e, k => by simp at e; subst e; exact ⟨k, h.2⟩
  | _ :: _, _ :: _, i + 1, _, _, h, e, k => ⟨h.1, Fits.reset h.2 (by simpa using e) k⟩
  | [], _ :: _, _, _, _, h, _, _ => h.elim
  | _ :: _, [], _, _, _, h, _, _ => h.elim
theorem owA_reset_sub : ∀ {Γ : List Sl} {σ : L2.St} {i : Nat} {P : Pd}, (owA (Γ.set i (.im P)) σ).Sublist (owA Γ σ)
  | [], σ, i, _ => by simp [owA]
  | s0 :: Γ, [], i, _ => by cases i <;> simp [owA]
  | s0 :: Γ, y :: σ, 0, _ => List.sublist_append_right _ _
  | s0 :: Γ, y :: σ, i + 1, _ => List.Sublist.append (List.Sublist.refl _) owA_reset_sub
/-- the owned object in a slot is known from now on -/
theorem At.freeze (A : At B Γ σ F H) {i : Nat} {O : Od} {P : Pd} (e : Γ[i]? = some (.ow O)) (hP : ∀ p o F', O.p o F' → F' p = some o → P.p (.ref p) F') : ∃ F', At B (Γ.set i (.im P)) σ F' H ∧ Same F F' := by
  obtain ⟨p, o, h1, h2, h3, h4, h5⟩ := A.ow e
  have np : p ∉ owA (Γ.set i .any) σ := by
    have go : ∀ {Γ : List Sl} {σ : L2.St} {i : Nat}, (owA Γ σ).Nodup → Γ[i]? = some (.ow O) → σ[i]? = some (some (.ref p)) → p ∉ owA (Γ.set i .any) σ := by
      intro Γ
      induction Γ with
      | nil => intro σ i _ e; simp at e
      | cons s Γ ih =>
        intro σ i nd e e2
        cases σ with
        | nil => simp at e2
        | cons x σ =>
          have nd : (ownS s x ++ owA Γ σ).Nodup := nd
          obtain ⟨n1, n2, n3⟩ := List.nodup_append.mp nd
          cases i with
          | zero =>
            simp at e e2
            subst e; subst e2
            intro z
            have z : p ∈ owA Γ σ := z
            exact n3 p (by simp [ownS]) p z rfl
          | succ i =>
            intro z
            have z : p ∈ ownS s x ++ owA (Γ.set i .any) σ := z
            have e' : Γ[i]? = some (.ow O) := by simpa using e
            have e2' : σ[i]? = some (some (.ref p)) := by simpa using e2
            rcases List.mem_append.mp z with z | z
            · exact n3 p z p (mem_owA_of e' e2') rfl
            · exact ih n2 e' e2' z
    exact go A.dis e h1
  obtain ⟨A2, sF⟩ := (A.forget (i := i)).know (o := o) h2 h3 h5 np
  refine ⟨upd F p o, ?_, sF⟩
  have f2 := A2.fit.reset (i := i) (s := .im P) h1 ⟨.ref p, rfl, hP p o _ (O.mono _ _ _ sF h4) upd_same⟩
  rw [List.set_set] at f2
  exact ⟨A2.sub, A2.ext, A2.kept, A2.new, f2, A.dis.sublist owA_reset_sub, A2.bob, A2.pin⟩
theorem Fits.base {B B' : Bs} (e1 : B'.H = B.H) (e2 : B'.bor = B.bor) : ∀ {Γ : List Sl} {σ : L2.St}, Fits B F H Γ σ → Fits B' F H Γ σ
  | [], [], _ => trivial
  | s :: Γ, x :: σ, h => by
    refine ⟨?_, Fits.base e1 e2 h.2⟩
    have h1 := h.1
    cases s with
    | any => trivial
    | im P => exact h1
    | ow O => obtain ⟨p, o, z1, z2, z3, z4, z5⟩ := h1; exact ⟨p, o, z1, z2, z3, z4, by rw [e1]; exact z5⟩
    | bo j O => obtain ⟨o, z1, z2, z3, z4, z5⟩ := h1; exact ⟨o, z1, z2, z3, z4, by rw [e2]; exact z5⟩
  | [], _ :: _, h => h.elim
  | _ :: _, [], h => h.elim
theorem At.pinned (h : At B Γ σ F H) {v : V} {P : Pd} (hv : P.p v F) : At { B with pins := (v, P) :: B.pins } Γ σ F H :=
  ⟨h.sub, h.ext, h.kept, h.new, Fits.base (by rfl) (by rfl) h.fit, h.dis, h.bob, fun q hq => by
    rcases List.mem_cons.mp hq with z | z
    · subst z; exact hv
    · exact h.pin q z⟩
theorem At.unpinned {v : V} {P : Pd} (h : At { B with pins := (v, P) :: B.pins } Γ σ F H) : At B Γ σ F H ∧ P.p v F :=
  ⟨⟨h.sub, h.ext, h.kept, h.new, Fits.base (by rfl) (by rfl) h.fit, h.dis, h.bob, fun q hq => h.pin q (List.mem_cons_of_mem _ hq)⟩, h.pin (v, P) List.mem_cons_self⟩
end
end TL
namespace TL
open PySem L2

/-! ### typed values -/
def RInt (x : Int) : Pd := ⟨fun v _ => v = .int x, fun _ _ _ _ h => h⟩
def RBool (x : Bool) : Pd := ⟨fun v _ => v = .bl x, fun _ _ _ _ h => h⟩
def RStr (x : Str) : Pd := ⟨fun v _ => v = .str x, fun _ _ _ _ h => h⟩
def RNon (_ : Unit) : Pd := ⟨fun v _ => v = .non, fun _ _ _ _ h => h⟩
def ROpt {α : Type} (R : α → Pd) (x : Option α) : Pd := ⟨fun v F => match x with | none => v = .non | some y => v ≠ .non ∧ (R y).p v F, fun v F F' e h => by
  cases x with
  | none => exact h
  | some y => exact ⟨h.1, (R y).mono _ _ _ e h.2⟩⟩
def AllR {α : Type} (R : α → Pd) : List α → List V → Hp → Prop
  | [], [], _ => True
  | x :: xs, v :: vs, F => (R x).p v F ∧ AllR R xs vs F
  | _, _, _ => False
section
variable {α β : Type} {R : α → Pd} {F F' : Hp}
theorem AllR.mono (e : Same F F') : ∀ {xs : List α} {vs : List V}, AllR R xs vs F → AllR R xs vs F'
  | [], [], _ => trivial
  | _ :: _, _ :: _, h => ⟨(R _).mono _ _ _ e h.1, AllR.mono e h.2⟩
theorem AllR.len : ∀ {xs : List α} {vs : List V}, AllR R xs vs F → vs.length = xs.length
  | [], [], _ => rfl
  | _ :: _, _ :: _, h => by simp [AllR.len h.2]
theorem AllR.get : ∀ {xs : List α} {vs : List V} {i : Nat} {x : α}, AllR R xs vs F → xs[i]? = some x → ∃ v, vs[i]? = some v ∧ (R x).p v F
  | x :: xs, v :: vs, 0, y, h, e => by simp at e; subst e; exact ⟨v, rfl, h.1⟩
  | x :: xs, v :: vs, i + 1, y, h, e => by
    obtain ⟨w, h1, h2⟩ := AllR.get (i := i) h.2 (by simpa using e)
    exact ⟨w, by simpa using h1, h2⟩
  | [], _, i, y, h, e => by simp at e
theorem AllR.append : ∀ {xs ys : List α} {vs ws : List V}, AllR R xs vs F → AllR R ys ws F → AllR R (xs ++ ys) (vs ++ ws) F
  | [], _, [], _, _, h => h
  | _ :: _, _, _ :: _, _, h, k => ⟨h.1, AllR.append h.2 k⟩
theorem AllR.drop : ∀ {xs : List α} {vs : List V} (n : Nat), AllR R xs vs F → AllR R (xs.drop n) (vs.drop n) F
  | [], [], n, _ => by simp [AllR]
  | _ :: _, _ :: _, 0, h => h
  | _ :: _, _ :: _, n + 1, h => AllR.drop n h.2
theorem AllR.take : ∀ {xs : List α} {vs : List V} (n : Nat), AllR R xs vs F → AllR R (xs.take n) (vs.take n) F
  | [], [], n, _ => by simp [AllR]
  | _ :: _, _ :: _, 0, h => trivial
  | _ :: _, _ :: _, n + 1, h => ⟨h.1, AllR.take n h.2⟩
theorem AllR.reverse : ∀ {xs : List α} {vs : List V}, AllR R xs vs F → AllR R xs.reverse vs.reverse F
  | [], [], _ => trivial
  | x :: xs, v :: vs, h => by
    rw [List.reverse_cons, List.reverse_cons]
    exact AllR.append (AllR.reverse h.2) ⟨h.1, trivial⟩
theorem AllR.set : ∀ {xs : List α} {vs : List V} {x : α} {v : V} (i : Nat), AllR R xs vs F → (R x).p v F → AllR R (xs.set i x) (vs.set i v) F
  | [], [], _, _, _, _, _ => trivial
  | _ :: _, _ :: _, _, _, 0, h, k => ⟨k, h.2⟩
  | _ :: _, _ :: _, _, _, i + 1, h, k => ⟨h.1, AllR.set i h.2 k⟩
theorem AllR.dropLast {xs : List α} {vs : List V} (h : AllR R xs vs F) : AllR R xs.dropLast vs.dropLast F := by
  rw [List.dropLast_eq_take, List.dropLast_eq_take, h.len]
  exact h.take _
theorem AllR.erase : ∀ {xs : List α} {vs : List V} (i : Nat), AllR R xs vs F → AllR R (xs.eraseIdx i) (vs.eraseIdx i) F
  | [], [], _, _ => trivial
  | _ :: _, _ :: _, 0, h => h.2
  | _ :: _, _ :: _, i + 1, h => ⟨h.1, AllR.erase i h.2⟩
theorem AllR.rep {xs : List α} {vs : List V} (h : AllR R xs vs F) : ∀ n : Nat, AllR R (List.replicate n xs).flatten (List.replicate n vs).flatten F
  | 0 => trivial
  | n + 1 => by
    rw [List.replicate_succ, List.replicate_succ, List.flatten_cons, List.flatten_cons]
    exact h.append (AllR.rep h n)
theorem AllR.ints {xs : List Int} : ∀ {vs : List V}, AllR RInt xs vs F ↔ vs = xs.map V.int := by
  induction xs with
  | nil => intro vs; cases vs with | nil => exact ⟨fun _ => rfl, fun _ => trivial⟩ | cons v vs => exact ⟨fun h => h.elim, fun h => by cases h⟩
  | cons x xs ih =>
    intro vs
    cases vs with
    | nil => exact ⟨fun h => h.elim, fun h => by cases h⟩
    | cons v vs =>
      refine ⟨fun h => ?_, fun h => ?_⟩
      · have h1 : v = .int x := h.1
        rw [h1, ih.mp h.2]; rfl
      · rw [List.map_cons] at h
        obtain ⟨h1, h2⟩ := List.cons.inj h
        exact ⟨h1, ih.mpr h2⟩
theorem AllR.bools {xs : List Bool} : ∀ {vs : List V}, AllR RBool xs vs F ↔ vs = xs.map V.bl := by
  induction xs with
  | nil => intro vs; cases vs with | nil => exact ⟨fun _ => rfl, fun _ => trivial⟩ | cons v vs => exact ⟨fun h => h.elim, fun h => by cases h⟩
  | cons x xs ih =>
    intro vs
    cases vs with
    | nil => exact ⟨fun h => h.elim, fun h => by cases h⟩
    | cons v vs =>
      refine ⟨fun h => ?_, fun h => ?_⟩
      · have h1 : v = .bl x := h.1
        rw [h1, ih.mp h.2]; rfl
      · rw [List.map_cons] at h
        obtain ⟨h1, h2⟩ := List.cons.inj h
        exact ⟨h1, ih.mpr h2⟩
theorem AllR.strs {xs : List Str} : ∀ {vs : List V}, AllR RStr xs vs F ↔ vs = xs.map V.str := by
  induction xs with
  | nil => intro vs; cases vs with | nil => exact ⟨fun _ => rfl, fun _ => trivial⟩ | cons v vs => exact ⟨fun h => h.elim, fun h => by cases h⟩
  | cons x xs ih =>
    intro vs
    cases vs with
    | nil => exact ⟨fun h => h.elim, fun h => by cases h⟩
    | cons v vs =>
      refine ⟨fun h => ?_, fun h => ?_⟩
      · have h1 : v = .str x := h.1
        rw [h1, ih.mp h.2]; rfl
      · rw [List.map_cons] at h
        obtain ⟨h1, h2⟩ := List.cons.inj h
        exact ⟨h1, ih.mpr h2⟩
end
theorem seqL_mono {K : PySem.W.Frag} {F F' : Hp} {a : Addr} {xs : List V} (e : Same F F') (h : SqL K F a xs) : SqL K F' a xs := e.seq h
theorem seqT_mono {K : PySem.W.Frag} {F F' : Hp} {a : Addr} {xs : List V} (e : Same F F') (h : SqT K F a xs) : SqT K F' a xs := by
  rcases h with (h | ⟨o, h⟩) | h
  · exact .inl (.inl (e _ _ h))
  · exact .inl (.inr ⟨o, e _ _ h⟩)
  · exact .inr h
/-- a list that is not changed any more; a tuple -/
def RList (K : PySem.W.Frag) {α : Type} (R : α → Pd) (xs : List α) : Pd := ⟨fun v F => ∃ a vs, v = .ref a ∧ SqL K F a vs ∧ AllR R xs vs F, fun _ _ _ e ⟨a, vs, h1, h2, h3⟩ => ⟨a, vs, h1, seqL_mono e h2, h3.mono e⟩⟩
/-- .. that stands in the heap itself (not the script) -/
def RLst {α : Type} (R : α → Pd) (xs : List α) : Pd := ⟨fun v F => ∃ a vs, v = .ref a ∧ F a = some (.lst vs) ∧ AllR R xs vs F, fun _ _ _ e ⟨a, vs, h1, h2, h3⟩ => ⟨a, vs, h1, e _ _ h2, h3.mono e⟩⟩
def RTup (K : PySem.W.Frag) {α : Type} (R : α → Pd) (xs : List α) : Pd := ⟨fun v F => ∃ a vs, v = .ref a ∧ SqT K F a vs ∧ AllR R xs vs F, fun _ _ _ e ⟨a, vs, h1, h2, h3⟩ => ⟨a, vs, h1, seqT_mono e h2, h3.mono e⟩⟩
def RPair (K : PySem.W.Frag) {α β : Type} (R : α → Pd) (R' : β → Pd) (x : α × β) : Pd :=
  ⟨fun v F => ∃ a v1 v2, v = .ref a ∧ SqT K F a [v1, v2] ∧ (R x.1).p v1 F ∧ (R' x.2).p v2 F, fun _ _ _ e ⟨a, v1, v2, h1, h2, h3, h4⟩ => ⟨a, v1, v2, h1, seqT_mono e h2, (R _).mono _ _ _ e h3, (R' _).mono _ _ _ e h4⟩⟩
def OList {α : Type} (R : α → Pd) (xs : List α) : Od := ⟨fun o F => ∃ vs, o = .lst vs ∧ AllR R xs vs F, fun _ _ _ e ⟨vs, h1, h2⟩ => ⟨vs, h1, h2.mono e⟩⟩
def AllP : List Pd → List V → Hp → Prop
  | [], [], _ => True
  | P :: Ps, v :: vs, F => P.p v F ∧ AllP Ps vs F
  | _, _, _ => False
theorem AllP.mono {F F' : Hp} (e : Same F F') : ∀ {Ps : List Pd} {vs : List V}, AllP Ps vs F → AllP Ps vs F'
  | [], [], _ => trivial
  | _ :: _, _ :: _, h => ⟨(‹Pd›).mono _ _ _ e h.1, AllP.mono e h.2⟩
theorem AllP.len {F : Hp} : ∀ {Ps : List Pd} {vs : List V}, AllP Ps vs F → vs.length = Ps.length
  | [], [], _ => rfl
  | _ :: _, _ :: _, h => by simp [AllP.len h.2]

/-! ### judgements -/
def tE {S α : Type} (B : Bs) (Γ : S → List Sl) (R : α → Pd) (m : S → (α → S → Prop) → Prop) : TE := fun σ H Q =>
  ∃ s F K, At B (Γ s) σ F H ∧ m s K ∧ ∀ x s' v F' H', K x s' → At B (Γ s') σ F' H' → Same F F' → (R x).p v F' → Q v H'
/-- a new list, owned by nobody yet -/
def tN {S α : Type} (B : Bs) (Γ : S → List Sl) (R : α → Pd) (m : S → (List α → S → Prop) → Prop) : TE := fun σ H Q =>
  ∃ s F K, At B (Γ s) σ F H ∧ m s K ∧ ∀ xs s' p vs F' H', K xs s' → At B (Γ s') σ F' H' → Same F F' → H' p = some (.lst vs) → F' p = none → B.H p = none → p ∉ owA (Γ s') σ → AllR R xs vs F' → Q (.ref p) H'
def tT {S : Type} (B : Bs) (Γ : S → List Sl) (m : S → (Bool → S → Prop) → Prop) : TT := fun σ H Q =>
  ∃ s F K, At B (Γ s) σ F H ∧ m s K ∧ ∀ b s' F' H', K b s' → At B (Γ s') σ F' H' → Same F F' → Q b H'
def tA {S ι : Type} (B : Bs) (Γ : S → List Sl) (As : ι → List Pd) (m : S → (ι → S → Prop) → Prop) : TA := fun σ H Q =>
  ∃ s F K, At B (Γ s) σ F H ∧ m s K ∧ ∀ x s' vs F' H', K x s' → At B (Γ s') σ F' H' → Same F F' → AllP (As x) vs F' → Q vs H'
def tO {S : Type} (B : Bs) (Γ : S → List Sl) (m : S → (Option Int → S → Prop) → Prop) : L2.TO := fun σ H Q =>
  ∃ s F K, At B (Γ s) σ F H ∧ m s K ∧ ∀ o s' F' H', K o s' → At B (Γ s') σ F' H' → Same F F' → Q o H'
def acons {α ι : Type} (R : α → Pd) (As : ι → List Pd) (x : α × ι) : List Pd := R x.1 :: As x.2
def anil (_ : Unit) : List Pd := []

theorem pe_imp {X : Cx} {e : Expr} {t t' : TE} (h : PE X e t) (i : ∀ σ H Q, t' σ H Q → t σ H Q) : PE X e t' := ⟨fun pins s σ H Q I q => h.run pins s σ H Q I (i _ _ _ q)⟩
theorem pt_imp {X : Cx} {e : Expr} {t t' : TT} (h : PT X e t) (i : ∀ σ H Q, t' σ H Q → t σ H Q) : PT X e t' := ⟨fun pins s σ H Q I q => h.run pins s σ H Q I (i _ _ _ q)⟩
theorem pw_imp {X : Cx} {e : Expr} {t t' : TT} (h : PW X e t) (i : ∀ σ H Q, t' σ H Q → t σ H Q) : PW X e t' := ⟨fun wh pins s σ H Q I q => h.run wh pins s σ H Q I (i _ _ _ q)⟩
theorem pa_imp {X : Cx} {es : List Expr} {t t' : TA} (h : PA X es t) (i : ∀ σ H Q, t' σ H Q → t σ H Q) : PA X es t' := ⟨fun pos pins s σ H Q I q => h.run pos pins s σ H Q I (i _ _ _ q)⟩
theorem po_imp {X : Cx} {e : Option Expr} {t t' : L2.TO} (h : PO X e t) (i : ∀ σ H Q, t' σ H Q → t σ H Q) : PO X e t' := ⟨fun pins s σ H Q I q => h.run pins s σ H Q I (i _ _ _ q)⟩
theorem ps_imp {X : Cx} {e : Stmt} {t t' : TS} (h : PS X e t) (i : ∀ D σ H, t' D σ H → t D σ H) : PS X e t' := ⟨fun pins s σ H D I q => h.run pins s σ H D I (i _ _ _ q)⟩
theorem pss_imp {X : Cx} {e : List Stmt} {t t' : TS} (h : PSs X e t) (i : ∀ D σ H, t' D σ H → t D σ H) : PSs X e t' := ⟨fun pins s σ H D I q => h.run pins s σ H D I (i _ _ _ q)⟩
theorem pi_imp {X : Cx} {tg e : Expr} {t t' : TI} (h : PI X tg e t) (i : ∀ σ H Q, t' σ H Q → t σ H Q) : PI X tg e t' := ⟨fun pins s σ H Q I q => h.run pins s σ H Q I (i _ _ _ q)⟩


section
variable {X : Cx} {S : Type} {B : Bs} {Γ : S → List Sl} {K : PySem.W.Frag} {α β γ ι : Type} {R Ra : α → Pd} {Rb : β → Pd} {Rc : γ → Pd} {e a b c : Expr} {pos : Pos}
variable {m ma : S → (α → S → Prop) → Prop} {mb : S → (β → S → Prop) → Prop}

/-- a new list, known from now on -/
theorem te_lst {m : S → (List α → S → Prop) → Prop} (h : PE X e (tN B Γ R m)) : PE X e (tE B Γ (RLst R) m) :=
  pe_imp h fun σ H Q ⟨s, F, K', A, hm, k⟩ => ⟨s, F, K', A, hm, fun xs s' p vs F' H' kx A' e' hp fp bp np av => by
    obtain ⟨A2, sF⟩ := A'.know fp hp bp np
    exact k xs s' (.ref p) (upd F' p (.lst vs)) H' kx A2 (e'.trans sF) ⟨p, vs, rfl, upd_same, av.mono sF⟩⟩
theorem te_known {m : S → (List α → S → Prop) → Prop} (h : PE X e (tN B Γ R m)) : PE X e (tE B Γ (RList K R) m) :=
  pe_imp h fun σ H Q ⟨s, F, K', A, hm, k⟩ => ⟨s, F, K', A, hm, fun xs s' p vs F' H' kx A' e' hp fp bp np av => by
    obtain ⟨A2, sF⟩ := A'.know fp hp bp np
    exact k xs s' (.ref p) (upd F' p (.lst vs)) H' kx A2 (e'.trans sF) ⟨p, vs, rfl, SqL.of upd_same, av.mono sF⟩⟩
theorem te_var (i : Nat) {x : Str} {f : S → α} (hG : ∀ s, (Γ s)[i]? = some (.im (R (f s))) := by intro _; rfl) (hN : X.N[i]? = some x := by rfl) (hv : Vis X.env.scope x := by first | exact Or.inl rfl | exact Or.inr (Or.inl rfl) | exact Or.inr (Or.inr rfl)) (hd : (x == ("__debug__" : Str)) = false := by decide)
    (hcd : (x == ("__classdict__" : Str)) = false := by decide) : PE X (.Name x pos) (tE B Γ R (fun s K => K (f s) s)) :=
  pe_imp (pe_var hN hv hd hcd) fun σ H Q ⟨s, F, K', A, hm, k⟩ => by
    obtain ⟨v, h1, h2⟩ := A.im (hG s)
    exact ⟨v, h1, k _ s v F H hm A (Same.refl F) h2⟩
theorem te_const {v : V} {x : α} (h : PE X e (tC v)) (hv : ∀ F, (R x).p v F) : PE X e (tE B Γ R (fun s K => K x s)) :=
  pe_imp h fun σ H Q ⟨s, F, K', A, hm, k⟩ => k _ s v F H hm A (Same.refl F) (hv F)
theorem te_int {i : Int} {j} : PE X (.Constant (.int i) j pos) (tE B Γ RInt (fun s K => K i s)) := te_const pe_int fun _ => rfl
theorem te_str {i : Str} {j} : PE X (.Constant (.str i) j pos) (tE B Γ RStr (fun s K => K i s)) := te_const pe_str fun _ => rfl
theorem te_bl {i : Bool} {j} : PE X (.Constant (.bool i) j pos) (tE B Γ RBool (fun s K => K i s)) := te_const pe_bl fun _ => rfl
theorem te_non {j} : PE X (.Constant .none j pos) (tE B Γ RNon (fun s K => K () s)) := te_const pe_non fun _ => rfl
theorem te_none {j} : PE X (.Constant .none j pos) (tE B Γ (ROpt R) (fun s K => K none s)) := te_const pe_non fun _ => rfl
theorem te_some (h : PE X e (tE B Γ R m)) (hn : ∀ x v F, (R x).p v F → v ≠ .non) : PE X e (tE B Γ (ROpt R) (fun s K => m s fun x s' => K (some x) s')) :=
  pe_imp h fun σ H Q ⟨s, F, K', A, hm, k⟩ => ⟨s, F, _, A, hm, fun x s' v F' H' kx A' e' r => k (some x) s' v F' H' kx A' e' ⟨hn _ _ _ r, r⟩⟩
/-- what is known may be weakened -/
theorem te_as {R' : β → Pd} {f : α → β} (h : PE X e (tE B Γ R m)) (hi : ∀ x v F, (R x).p v F → (R' (f x)).p v F) : PE X e (tE B Γ R' (fun s K => m s fun x s' => K (f x) s')) :=
  pe_imp h fun σ H Q ⟨s, F, K', A, hm, k⟩ => ⟨s, F, _, A, hm, fun x s' v F' H' kx A' e' r => k (f x) s' v F' H' kx A' e' (hi _ _ _ r)⟩
theorem te_glob {x : Str} {u : Value} {v : V} {y : α} (hg : Gl X x) (hm : X.mg x = some u) (r : RelV v u) (hv : ∀ F, (R y).p v F) (hd : (x == ("__debug__" : Str)) = false := by decide) : PE X (.Name x pos) (tE B Γ R (fun s K => K y s)) := te_const (pe_glob hg hm r hd) hv

/-! ### two-place operations -/
/-- no new object -/
def OpV (r : R2) (Ra : α → Pd) (Rb : β → Pd) (Rc : γ → Pd) (co : α → β → Prop) (f : α → β → γ) : Prop := ∀ x y v w F H (Q : VK), (Ra x).p v F → (Rb y).p w F → Same F H → co x y → (∀ u, (Rc (f x y)).p u F → Q u H) → r v w H Q
def OpU (r : R2) (Ra : α → Pd) (Rb : β → Pd) (Rc : γ → Pd) (f : α → β → γ) : Prop := ∀ x y v w F H (Q : VK), (Ra x).p v F → (Rb y).p w F → Same F H → (∀ u, (Rc (f x y)).p u F → Q u H) → r v w H Q
/-- a new list -/
def OpN (r : R2) (Ra : α → Pd) (Rb : β → Pd) (Rc : γ → Pd) (co : α → β → Prop) (f : α → β → List γ) : Prop := ∀ x y v w F H (Q : VK), (Ra x).p v F → (Rb y).p w F → Same F H → co x y → (∀ p vs, H p = none → AllR Rc (f x y) vs F → Q (.ref p) (upd H p (.lst vs))) → r v w H Q
theorem top_v {r : R2} {co : α → β → Prop} {f : α → β → γ} (h : OpV r Ra Rb Rc co f) {σ : L2.St} {H : Hp} {Q : VK} (q : tE B Γ Rc (fun s K => ma s fun x s1 => mb s1 fun y s2 => co x y ∧ K (f x y) s2) σ H Q) : tOp r (tE B Γ Ra ma) (tE B Γ Rb mb) σ H Q := by
  obtain ⟨s, F, K', A, hm, k⟩ := q
  exact ⟨s, F, _, A, hm, fun x s1 v F1 H1 h1 A1 e1 r1 => ⟨s1, F1, _, A1, h1, fun y s2 w F2 H2 ⟨hc, kk⟩ A2 e2 r2 => h x y v w F2 H2 Q ((Ra x).mono _ _ _ e2 r1) r2 A2.sub hc fun u ru => k _ s2 u F2 H2 kk A2 (e1.trans e2) ru⟩⟩
theorem top_u {r : R2} {f : α → β → γ} (h : OpU r Ra Rb Rc f) {σ : L2.St} {H : Hp} {Q : VK} (q : tE B Γ Rc (fun s K => ma s fun x s1 => mb s1 fun y s2 => K (f x y) s2) σ H Q) : tOp r (tE B Γ Ra ma) (tE B Γ Rb mb) σ H Q := by
  obtain ⟨s, F, K', A, hm, k⟩ := q
  exact ⟨s, F, _, A, hm, fun x s1 v F1 H1 h1 A1 e1 r1 => ⟨s1, F1, _, A1, h1, fun y s2 w F2 H2 kk A2 e2 r2 => h x y v w F2 H2 Q ((Ra x).mono _ _ _ e2 r1) r2 A2.sub fun u ru => k _ s2 u F2 H2 kk A2 (e1.trans e2) ru⟩⟩
theorem top_n {r : R2} {co : α → β → Prop} {f : α → β → List γ} (h : OpN r Ra Rb Rc co f) {σ : L2.St} {H : Hp} {Q : VK} (q : tN B Γ Rc (fun s K => ma s fun x s1 => mb s1 fun y s2 => co x y ∧ K (f x y) s2) σ H Q) : tOp r (tE B Γ Ra ma) (tE B Γ Rb mb) σ H Q := by
  obtain ⟨s, F, K', A, hm, k⟩ := q
  exact ⟨s, F, _, A, hm, fun x s1 v F1 H1 h1 A1 e1 r1 => ⟨s1, F1, _, A1, h1, fun y s2 w F2 H2 ⟨hc, kk⟩ A2 e2 r2 => h x y v w F2 H2 Q ((Ra x).mono _ _ _ e2 r1) r2 A2.sub hc fun p vs np av => by
    have fr := A2.fresh np
    exact k _ s2 p vs F2 _ kk (A2.layH np) (e1.trans e2) upd_same fr.1 fr.2 (A2.notOwn np) av⟩⟩
theorem te_op {op : Operator} {r : R2} {co : α → β → Prop} {f : α → β → γ} (ho : OpR X (binaryOp op) r) (h : OpV r Ra Rb Rc co f) (ha : PE X a (tE B Γ Ra ma)) (hb : PE X b (tE B Γ Rb mb)) :
    PE X (.BinOp a op b pos) (tE B Γ Rc (fun s K => ma s fun x s1 => mb s1 fun y s2 => co x y ∧ K (f x y) s2)) := pe_imp (pe_op ho ha hb) fun _ _ _ q => top_v h q
theorem te_opU {op : Operator} {r : R2} {f : α → β → γ} (ho : OpR X (binaryOp op) r) (h : OpU r Ra Rb Rc f) (ha : PE X a (tE B Γ Ra ma)) (hb : PE X b (tE B Γ Rb mb)) :
    PE X (.BinOp a op b pos) (tE B Γ Rc (fun s K => ma s fun x s1 => mb s1 fun y s2 => K (f x y) s2)) := pe_imp (pe_op ho ha hb) fun _ _ _ q => top_u h q
theorem tn_op {op : Operator} {r : R2} {co : α → β → Prop} {f : α → β → List γ} (ho : OpR X (binaryOp op) r) (h : OpN r Ra Rb Rc co f) (ha : PE X a (tE B Γ Ra ma)) (hb : PE X b (tE B Γ Rb mb)) :
    PE X (.BinOp a op b pos) (tN B Γ Rc (fun s K => ma s fun x s1 => mb s1 fun y s2 => co x y ∧ K (f x y) s2)) := pe_imp (pe_op ho ha hb) fun _ _ _ q => top_n h q
theorem te_cmp {op : CmpOp} {r : R2} {co : α → β → Prop} {f : α → β → γ} (ho : OpR X (compareOp op) r) (h : OpV r Ra Rb Rc co f) (ha : PE X a (tE B Γ Ra ma)) (hb : PE X b (tE B Γ Rb mb)) (hm : behindInMarks op b = false) :
    PE X (.Compare a [op] [b] pos) (tE B Γ Rc (fun s K => ma s fun x s1 => mb s1 fun y s2 => co x y ∧ K (f x y) s2)) := pe_imp (pe_cmpR ho ha hb hm) fun _ _ _ q => top_v h q
theorem te_cmpU {op : CmpOp} {r : R2} {f : α → β → γ} (ho : OpR X (compareOp op) r) (h : OpU r Ra Rb Rc f) (ha : PE X a (tE B Γ Ra ma)) (hb : PE X b (tE B Γ Rb mb)) (hm : behindInMarks op b = false) :
    PE X (.Compare a [op] [b] pos) (tE B Γ Rc (fun s K => ma s fun x s1 => mb s1 fun y s2 => K (f x y) s2)) := pe_imp (pe_cmpR ho ha hb hm) fun _ _ _ q => top_u h q

theorem opU_int {g : Int → Int → V} {f : Int → Int → γ} (h : ∀ i j F, (Rc (f i j)).p (g i j) F) : OpU (rI0 g) RInt RInt Rc f := fun x y v w F H Q hx hy _ q => ⟨x, y, hx, hy, q _ (h x y F)⟩
theorem opV_int {C : Int → Int → Prop} {g : Int → Int → V} {f : Int → Int → γ} (h : ∀ i j F, (Rc (f i j)).p (g i j) F) : OpV (rI C g) RInt RInt Rc C f := fun x y v w F H Q hx hy _ hc q => ⟨x, y, hx, hy, hc, q _ (h x y F)⟩
theorem te_add {ma mb : S → (Int → S → Prop) → Prop} (ha : PE X a (tE B Γ RInt ma)) (hb : PE X b (tE B Γ RInt mb)) : PE X (.BinOp a .Add b pos) (tE B Γ RInt (fun s K => ma s fun x s1 => mb s1 fun y s2 => K (x + y) s2)) := te_opU op_add (opU_int fun _ _ _ => rfl) ha hb
theorem te_sub {ma mb : S → (Int → S → Prop) → Prop} (ha : PE X a (tE B Γ RInt ma)) (hb : PE X b (tE B Γ RInt mb)) : PE X (.BinOp a .Sub b pos) (tE B Γ RInt (fun s K => ma s fun x s1 => mb s1 fun y s2 => K (x - y) s2)) := te_opU op_sub (opU_int fun _ _ _ => rfl) ha hb
theorem te_mul {ma mb : S → (Int → S → Prop) → Prop} (ha : PE X a (tE B Γ RInt ma)) (hb : PE X b (tE B Γ RInt mb)) : PE X (.BinOp a .Mult b pos) (tE B Γ RInt (fun s K => ma s fun x s1 => mb s1 fun y s2 => CMul x y ∧ K (x * y) s2)) := te_op op_mul (opV_int fun _ _ _ => rfl) ha hb
theorem te_fdiv {ma mb : S → (Int → S → Prop) → Prop} (ha : PE X a (tE B Γ RInt ma)) (hb : PE X b (tE B Γ RInt mb)) : PE X (.BinOp a .FloorDiv b pos) (tE B Γ RInt (fun s K => ma s fun x s1 => mb s1 fun y s2 => CDivN x y ∧ K (x.fdiv y) s2)) := te_op op_fdivN (opV_int fun _ _ _ => rfl) ha hb
theorem te_mod {ma mb : S → (Int → S → Prop) → Prop} (ha : PE X a (tE B Γ RInt ma)) (hb : PE X b (tE B Γ RInt mb)) : PE X (.BinOp a .Mod b pos) (tE B Γ RInt (fun s K => ma s fun x s1 => mb s1 fun y s2 => y ≠ 0 ∧ K (x.fmod y) s2)) := te_op (co := fun _ y => y ≠ 0) op_modN (opV_int fun _ _ _ => rfl) ha hb
theorem te_pow {ma mb : S → (Int → S → Prop) → Prop} (ha : PE X a (tE B Γ RInt ma)) (hb : PE X b (tE B Γ RInt mb)) : PE X (.BinOp a .Pow b pos) (tE B Γ RInt (fun s K => ma s fun x s1 => mb s1 fun y s2 => CPow x y ∧ K (x ^ y.toNat) s2)) := te_op op_pow (opV_int fun _ _ _ => rfl) ha hb
theorem te_neg {ma : S → (Int → S → Prop) → Prop} (ha : PE X a (tE B Γ RInt ma)) : PE X (.UnaryOp .USub a pos) (tE B Γ RInt (fun s K => ma s fun x s1 => K (-x) s1)) :=
  pe_imp (pe_un un_neg ha) fun σ H Q ⟨s, F, K', A, hm, k⟩ => ⟨s, F, _, A, hm, fun x s1 v F1 H1 h1 A1 e1 r1 => ⟨x, r1, k _ s1 _ F1 H1 h1 A1 e1 rfl⟩⟩
theorem te_lt {ma mb : S → (Int → S → Prop) → Prop} (ha : PE X a (tE B Γ RInt ma)) (hb : PE X b (tE B Γ RInt mb)) : PE X (.Compare a [.Lt] [b] pos) (tE B Γ RBool (fun s K => ma s fun x s1 => mb s1 fun y s2 => K (decide (x < y)) s2)) := te_cmpU op_lt (opU_int fun _ _ _ => rfl) ha hb (nomark _)
theorem te_le {ma mb : S → (Int → S → Prop) → Prop} (ha : PE X a (tE B Γ RInt ma)) (hb : PE X b (tE B Γ RInt mb)) : PE X (.Compare a [.LtE] [b] pos) (tE B Γ RBool (fun s K => ma s fun x s1 => mb s1 fun y s2 => K (decide (x ≤ y)) s2)) := te_cmpU op_le (opU_int fun _ _ _ => rfl) ha hb (nomark _)
theorem te_gt {ma mb : S → (Int → S → Prop) → Prop} (ha : PE X a (tE B Γ RInt ma)) (hb : PE X b (tE B Γ RInt mb)) : PE X (.Compare a [.Gt] [b] pos) (tE B Γ RBool (fun s K => ma s fun x s1 => mb s1 fun y s2 => K (decide (y < x)) s2)) := te_cmpU op_gt (opU_int fun _ _ _ => rfl) ha hb (nomark _)
theorem te_ge {ma mb : S → (Int → S → Prop) → Prop} (ha : PE X a (tE B Γ RInt ma)) (hb : PE X b (tE B Γ RInt mb)) : PE X (.Compare a [.GtE] [b] pos) (tE B Γ RBool (fun s K => ma s fun x s1 => mb s1 fun y s2 => K (decide (y ≤ x)) s2)) := te_cmpU op_ge (opU_int fun _ _ _ => rfl) ha hb (nomark _)
/-- == of flat values: ints, bools, texts, None -/
structure Flat (R : α → Pd) (g : α → V) : Prop where
  rep : ∀ x v F, (R x).p v F → v = g x
  inj : ∀ x y, g x = g y → x = y
  sc : ∀ x y, scal (g x) (g y) = true
theorem flat_int : Flat RInt V.int := ⟨fun _ _ _ h => h, fun _ _ h => by injection h, fun _ _ => rfl⟩
theorem flat_bool : Flat RBool V.bl := ⟨fun _ _ _ h => h, fun _ _ h => by injection h, fun _ _ => rfl⟩
theorem flat_str : Flat RStr V.str := ⟨fun _ _ _ h => h, fun _ _ h => by injection h, fun _ _ => rfl⟩
theorem opU_eq [DecidableEq α] {g : α → V} (h : Flat R g) : OpU rEq R R RBool (fun x y => decide (x = y)) := fun x y v w F H Q hx hy _ q => by
  have e1 := h.rep _ _ _ hx
  have e2 := h.rep _ _ _ hy
  subst e1; subst e2
  refine ⟨h.sc x y, q _ ?_⟩
  show V.bl _ = V.bl _
  congr 1
  by_cases e : x = y
  · subst e; simp
  · simp [e, show ¬ g x = g y from fun z => e (h.inj x y z)]
theorem opU_ne [DecidableEq α] {g : α → V} (h : Flat R g) : OpU rNe R R RBool (fun x y => !decide (x = y)) := fun x y v w F H Q hx hy _ q => by
  have e1 := h.rep _ _ _ hx
  have e2 := h.rep _ _ _ hy
  subst e1; subst e2
  refine ⟨h.sc x y, q _ ?_⟩
  show V.bl _ = V.bl _
  congr 1
  by_cases e : x = y
  · subst e; simp
  · simp [e, show ¬ g x = g y from fun z => e (h.inj x y z)]
theorem te_eq [DecidableEq α] {g : α → V} (h : Flat R g) {mb : S → (α → S → Prop) → Prop} (ha : PE X a (tE B Γ R ma)) (hb : PE X b (tE B Γ R mb)) : PE X (.Compare a [.Eq] [b] pos) (tE B Γ RBool (fun s K => ma s fun x s1 => mb s1 fun y s2 => K (decide (x = y)) s2)) := te_cmpU op_eq (opU_eq h) ha hb (nomark _)
theorem te_ne [DecidableEq α] {g : α → V} (h : Flat R g) {mb : S → (α → S → Prop) → Prop} (ha : PE X a (tE B Γ R ma)) (hb : PE X b (tE B Γ R mb)) : PE X (.Compare a [.NotEq] [b] pos) (tE B Γ RBool (fun s K => ma s fun x s1 => mb s1 fun y s2 => K (!decide (x = y)) s2)) := te_cmpU op_ne (opU_ne h) ha hb (nomark _)
theorem te_isb {ma mb : S → (Bool → S → Prop) → Prop} (ha : PE X a (tE B Γ RBool ma)) (hb : PE X b (tE B Γ RBool mb)) : PE X (.Compare a [.Is] [b] pos) (tE B Γ RBool (fun s K => ma s fun x s1 => mb s1 fun y s2 => K (decide (x = y)) s2)) :=
  te_cmpU op_is_bl (fun x y v w F H Q hx hy _ q => ⟨x, y, hx, hy, q _ rfl⟩) ha hb (nomark _)
theorem te_isnotb {ma mb : S → (Bool → S → Prop) → Prop} (ha : PE X a (tE B Γ RBool ma)) (hb : PE X b (tE B Γ RBool mb)) : PE X (.Compare a [.IsNot] [b] pos) (tE B Γ RBool (fun s K => ma s fun x s1 => mb s1 fun y s2 => K (!decide (x = y)) s2)) :=
  te_cmpU op_isnot_bl (fun x y v w F H Q hx hy _ q => ⟨x, y, hx, hy, q _ rfl⟩) ha hb (nomark _)

/-- a comparison by typed values -/
def OpG (r : R2) (Ra : α → Pd) (Rb : β → Pd) (f : α → β → Bool) : Prop := ∀ x y v w F H (Q : VK), (Ra x).p v F → (Rb y).p w F → Same F H → (∀ F' H', Same F F' → Same H H' → Same F' H' → Nw F H F' → Q (.bl (f x y)) H') → r v w H Q
theorem OpU.g {r : R2} {f : α → β → Bool} (h : OpU r Ra Rb RBool f) : OpG r Ra Rb f := fun x y v w F H Q hx hy e q => h x y v w F H Q hx hy e fun u hu => by
  have hu : u = .bl (f x y) := hu
  subst hu
  exact q F H (Same.refl F) (Same.refl H) e Nw.refl
def CR (X : Cx) (op : CmpOp) (Ra : α → Pd) (Rb : β → Pd) (f : α → β → Bool) : Prop := ∃ r, OpR X (compareOp op) r ∧ OpG r Ra Rb f
theorem te_c {op : CmpOp} {f : α → β → Bool} (h : CR X op Ra Rb f) (ha : PE X a (tE B Γ Ra ma)) (hb : PE X b (tE B Γ Rb mb)) (hm : behindInMarks op b = false := by first | exact nomark _ | rfl) :
    PE X (.Compare a [op] [b] pos) (tE B Γ RBool (fun s K => ma s fun x s1 => mb s1 fun y s2 => K (f x y) s2)) := by
  obtain ⟨r, h1, h2⟩ := h
  refine pe_imp (pe_cmpR h1 ha hb hm) fun σ H Q ⟨s, F, K', A, hm, k⟩ => ?_
  exact ⟨s, F, _, A, hm, fun x s1 v F1 H1 h1 A1 e1 r1 => ⟨s1, F1, _, A1, h1, fun y s2 w F2 H2 kk A2 e2 r2 => h2 x y v w F2 H2 _ ((Ra x).mono _ _ _ e2 r1) r2 A2.sub fun F3 H3 z1 z2 z3 z4 => k _ s2 _ F3 H3 kk (A2.grow z1 z2 z3 z4) ((e1.trans e2).trans z1) rfl⟩⟩
theorem tt_c {op : CmpOp} {f : α → β → Bool} (h : CR X op Ra Rb f) (ha : PE X a (tE B Γ Ra ma)) (hb : PE X b (tE B Γ Rb mb)) (hm : behindInMarks op b = false := by first | exact nomark _ | rfl) :
    PT X (.Compare a [op] [b] pos) (tT B Γ (fun s K => ma s fun x s1 => mb s1 fun y s2 => K (f x y) s2)) := by
  obtain ⟨r, h1, h2⟩ := h
  refine pt_imp (pt_cmpR h1 ha hb hm) fun σ H Q ⟨s, F, K', A, hm, k⟩ => ?_
  exact ⟨s, F, _, A, hm, fun x s1 v F1 H1 h1 A1 e1 r1 => ⟨s1, F1, _, A1, h1, fun y s2 w F2 H2 kk A2 e2 r2 => h2 x y v w F2 H2 _ ((Ra x).mono _ _ _ e2 r1) r2 A2.sub fun F3 H3 z1 z2 z3 z4 => ⟨f x y, rfl, k _ s2 F3 H3 kk (A2.grow z1 z2 z3 z4) ((e1.trans e2).trans z1)⟩⟩⟩
theorem cr_lt : CR X .Lt RInt RInt (fun x y => decide (x < y)) := ⟨_, op_lt, (opU_int fun _ _ _ => rfl).g⟩
theorem cr_le : CR X .LtE RInt RInt (fun x y => decide (x ≤ y)) := ⟨_, op_le, (opU_int fun _ _ _ => rfl).g⟩
theorem cr_gt : CR X .Gt RInt RInt (fun x y => decide (y < x)) := ⟨_, op_gt, (opU_int fun _ _ _ => rfl).g⟩
theorem cr_ge : CR X .GtE RInt RInt (fun x y => decide (y ≤ x)) := ⟨_, op_ge, (opU_int fun _ _ _ => rfl).g⟩
theorem cr_eq [DecidableEq α] {g : α → V} (h : Flat R g) : CR X .Eq R R (fun x y => decide (x = y)) := ⟨_, op_eq, (opU_eq h).g⟩
theorem cr_ne [DecidableEq α] {g : α → V} (h : Flat R g) : CR X .NotEq R R (fun x y => !decide (x = y)) := ⟨_, op_ne, (opU_ne h).g⟩
theorem cr_isb : CR X .Is RBool RBool (fun x y => decide (x = y)) := ⟨_, op_is_bl, OpU.g fun x y v w F H Q hx hy _ q => ⟨x, y, hx, hy, q _ rfl⟩⟩
theorem cr_isnotb : CR X .IsNot RBool RBool (fun x y => !decide (x = y)) := ⟨_, op_isnot_bl, OpU.g fun x y v w F H Q hx hy _ q => ⟨x, y, hx, hy, q _ rfl⟩⟩
theorem cr_isN : CR X .Is (ROpt R) RNon (fun x _ => x.isNone) := ⟨_, op_isN, OpU.g fun x y v w F H Q hx hy _ q => ⟨hy, q _ (by
  show V.bl _ = V.bl _
  congr 1
  cases x with
  | none => have h : v = .non := hx; subst h; rfl
  | some z => exact decide_eq_false hx.1)⟩⟩
theorem cr_notN : CR X .IsNot (ROpt R) RNon (fun x _ => x.isSome) := ⟨_, op_notN, OpU.g fun x y v w F H Q hx hy _ q => ⟨hy, q _ (by
  show V.bl _ = V.bl _
  congr 1
  cases x with
  | none => have h : v = .non := hx; subst h; rfl
  | some z => rw [decide_eq_false hx.1]; rfl)⟩⟩
theorem cr_strlt : CR X .Lt RStr RStr (fun x y => decide (x.cps.toList < y.cps.toList)) := ⟨_, op_lt_str, OpU.g fun x y v w F H Q hx hy _ q => ⟨x, y, hx, hy, q _ rfl⟩⟩

/-! ### == of data -/
/-- a typed value as data, n deep at most -/
structure Dat (K : PySem.W.Frag) (R : α → Pd) (d : α → PyData) (n : Nat) : Prop where
  dp : ∀ x v F, (R x).p v F → Dp K F v (d x)
  lay : ∀ x, (d x).canLay0 = true
  inj : ∀ x y, PyData.eqv (d x) (d y) = true ↔ x = y
  dep : ∀ x, (d x).depth ≤ n
theorem dat_int : Dat K RInt PyData.int 0 := ⟨fun x v F h => by have h : v = .int x := h; subst h; exact .int x, fun _ => rfl, fun x y => by show (x == y) = true ↔ x = y; exact beq_iff_eq, fun _ => Nat.le_refl _⟩
theorem dat_bool : Dat K RBool PyData.bool 0 := ⟨fun x v F h => by have h : v = .bl x := h; subst h; exact .bl x, fun _ => rfl, fun x y => by show (x == y) = true ↔ x = y; exact beq_iff_eq, fun _ => Nat.le_refl _⟩
theorem eqvAll_iff {d : α → PyData} (h : ∀ x y, PyData.eqv (d x) (d y) = true ↔ x = y) : ∀ xs ys : List α, PyData.eqvAll (xs.map d) (ys.map d) = true ↔ xs = ys
  | [], [] => ⟨fun _ => rfl, fun _ => rfl⟩
  | [], _ :: _ => ⟨fun z => (nomatch z), fun z => (nomatch z)⟩
  | _ :: _, [] => ⟨fun z => (nomatch z), fun z => (nomatch z)⟩
  | x :: xs, y :: ys => by
    show (PyData.eqv (d x) (d y) && PyData.eqvAll (xs.map d) (ys.map d)) = true ↔ _
    rw [Bool.and_eq_true, h, eqvAll_iff h xs ys, List.cons.injEq]
theorem canAll {d : α → PyData} (h : ∀ x, (d x).canLay0 = true) : ∀ xs : List α, PyData.canLayAll0 (xs.map d) = true
  | [] => rfl
  | x :: xs => by
    show ((d x).canLay0 && PyData.canLayAll0 (xs.map d)) = true
    rw [h, canAll h xs]; rfl
theorem depAll {d : α → PyData} {n : Nat} (h : ∀ x, (d x).depth ≤ n) : ∀ xs : List α, PyData.depthAll (xs.map d) ≤ n
  | [] => Nat.zero_le _
  | x :: xs => by
    show max (d x).depth (PyData.depthAll (xs.map d)) ≤ n
    exact Nat.max_le.mpr ⟨h x, depAll h xs⟩
theorem dpAll {d : α → PyData} {F : Hp} (h : ∀ x v, (R x).p v F → Dp K F v (d x)) : ∀ {xs : List α} {vs : List V}, AllR R xs vs F → DpAll K F vs (xs.map d)
  | [], [], _ => .nil
  | _ :: _, _ :: _, q => .cons (h _ _ q.1) (dpAll h q.2)
theorem dat_list {d : α → PyData} {n : Nat} (h : Dat K R d n) : Dat K (RList K R) (fun xs => .list (xs.map d)) (n + 1) :=
  ⟨fun x v F ⟨a, vs, h1, h2, h3⟩ => by subst h1; exact .lst h2 (dpAll (fun x v => h.dp x v F) h3), fun x => canAll h.lay x, fun x y => eqvAll_iff h.inj x y, fun x => by
    show PyData.depthAll (x.map d) + 1 ≤ n + 1
    exact Nat.succ_le_succ (depAll h.dep x)⟩
theorem dat_tup {d : α → PyData} {n : Nat} (h : Dat K R d n) : Dat K (RTup K R) (fun xs => .tuple (xs.map d)) (n + 1) :=
  ⟨fun x v F ⟨a, vs, h1, h2, h3⟩ => by subst h1; exact .tup h2 (dpAll (fun x v => h.dp x v F) h3), fun x => canAll h.lay x, fun x y => eqvAll_iff h.inj x y, fun x => by
    show PyData.depthAll (x.map d) + 1 ≤ n + 1
    exact Nat.succ_le_succ (depAll h.dep x)⟩
theorem Dp.same {F H : Hp} (e : Same F H) : (∀ {v : V} {d : PyData}, Dp K F v d → Dp K H v d) := by
  intro v d h
  induction h using Dp.rec (motive_2 := fun vs ds _ => DpAll K H vs ds) with
  | non => exact .non
  | bl b => exact .bl b
  | int i => exact .int i
  | str x => exact .str x
  | lst h1 _ ih => exact .lst (seqL_mono e h1) ih
  | tup h1 _ ih => exact .tup (seqT_mono e h1) ih
  | nil => exact .nil
  | cons _ _ ih1 ih2 => exact .cons ih1 ih2
theorem Dat.sh {d : α → PyData} {n : Nat} (h : Dat K R d n) (hn : n ≤ 64) (x : α) : SeqAt.shaped (d x) = true := by
  unfold SeqAt.shaped
  rw [h.lay, decide_eq_true (Nat.le_trans (h.dep x) hn)]; rfl
theorem Dat.eqv [DecidableEq α] {d : α → PyData} {n : Nat} (h : Dat K R d n) (x y : α) : PyData.eqv (d x) (d y) = decide (x = y) := by
  by_cases e : x = y
  · rw [decide_eq_true e]; exact (h.inj x y).mpr e
  · rw [decide_eq_false e]
    cases q : PyData.eqv (d x) (d y) with
    | false => rfl
    | true => exact absurd ((h.inj x y).mp q) e
theorem cr_eqD [DecidableEq α] {d : α → PyData} {n : Nat} (hK : X.K = K) (hu : X.A.units + 64 < cLine) (h : Dat K R d n) (hn : n ≤ 60 := by decide) : CR X .Eq R R (fun x y => decide (x = y)) := by
  subst hK
  refine ⟨_, op_eqD hu, OpU.g fun x y v w F H Q hx hy e q => ⟨d x, d y, Dp.same e (h.dp _ _ _ hx), Dp.same e (h.dp _ _ _ hy), h.sh (by omega) x, h.sh (by omega) y, ?_⟩⟩
  rw [h.eqv]
  exact q _ rfl
theorem cr_neD [DecidableEq α] {d : α → PyData} {n : Nat} (hK : X.K = K) (hu : X.A.units + 64 < cLine) (h : Dat K R d n) (hn : n ≤ 60 := by decide) : CR X .NotEq R R (fun x y => !decide (x = y)) := by
  subst hK
  refine ⟨_, op_neD hu, OpU.g fun x y v w F H Q hx hy e q => ⟨d x, d y, Dp.same e (h.dp _ _ _ hx), Dp.same e (h.dp _ _ _ hy), h.sh (by omega) x, h.sh (by omega) y, ?_⟩⟩
  rw [h.eqv]
  exact q _ rfl

/-! ### tests, and, or, not, x if c else y -/
variable {mt mt' : S → (Bool → S → Prop) → Prop}
/-- a value as a test: not a comparison, and, or, not -/
theorem tt_val (h : PE X e (tE B Γ RBool mt)) (he : ∀ whole, isTrue e X.env whole = (do let v ← whole; standAt e.pos; holding [v] (truthy v)) := by intro _; rfl) : PT X e (tT B Γ mt) :=
  pt_imp (pt_val h he) fun σ H Q ⟨s, F, K', A, hm, k⟩ => ⟨s, F, _, A, hm, fun x s1 v F1 H1 h1 A1 e1 r1 => ⟨x, r1, k x s1 F1 H1 h1 A1 e1⟩⟩
theorem tt_not (h : PT X e (tT B Γ mt)) : PT X (.UnaryOp .Not e pos) (tT B Γ (fun s K => mt s fun x s1 => K (!x) s1)) :=
  pt_imp (pt_not h) fun σ H Q ⟨s, F, K', A, hm, k⟩ => ⟨s, F, _, A, hm, fun x s1 F1 H1 h1 A1 e1 => k (!x) s1 F1 H1 h1 A1 e1⟩
theorem te_not (h : PE X e (tE B Γ RBool mt)) : PE X (.UnaryOp .Not e pos) (tE B Γ RBool (fun s K => mt s fun x s1 => K (!x) s1)) :=
  pe_imp (pe_not h) fun σ H Q ⟨s, F, K', A, hm, k⟩ => ⟨s, F, _, A, hm, fun x s1 v F1 H1 h1 A1 e1 r1 => ⟨x, r1, k (!x) s1 _ F1 H1 h1 A1 e1 rfl⟩⟩
/-- a value by a test (and, or, not, comparisons stand as values too where they are given so) -/
theorem tw_and1 (h : PT X a (tT B Γ mt)) : PW X (.BoolOp .And [a] pos) (tT B Γ mt) := pw_and1 h
theorem tw_or1 (h : PT X a (tT B Γ mt)) : PW X (.BoolOp .Or [a] pos) (tT B Γ mt) := pw_or1 h
theorem tw_and {rest : List Expr} (h : PT X a (tT B Γ mt)) (h' : PW X (.BoolOp .And (b :: rest) pos) (tT B Γ mt')) : PW X (.BoolOp .And (a :: b :: rest) pos) (tT B Γ (fun s K => mt s fun x s1 => if x = true then mt' s1 K else K false s1)) :=
  pw_imp (pw_and h h') fun σ H Q ⟨s, F, K', A, hm, k⟩ => ⟨s, F, _, A, hm, fun x s1 F1 H1 h1 A1 e1 => by
    cases x with
    | true => exact ⟨s1, F1, _, A1, h1, fun b s2 F2 H2 h2 A2 e2 => k b s2 F2 H2 h2 A2 (e1.trans e2)⟩
    | false => exact k false s1 F1 H1 h1 A1 e1⟩
theorem tw_or {rest : List Expr} (h : PT X a (tT B Γ mt)) (h' : PW X (.BoolOp .Or (b :: rest) pos) (tT B Γ mt')) : PW X (.BoolOp .Or (a :: b :: rest) pos) (tT B Γ (fun s K => mt s fun x s1 => if x = true then K true s1 else mt' s1 K)) :=
  pw_imp (pw_or h h') fun σ H Q ⟨s, F, K', A, hm, k⟩ => ⟨s, F, _, A, hm, fun x s1 F1 H1 h1 A1 e1 => by
    cases x with
    | false => exact ⟨s1, F1, _, A1, h1, fun b s2 F2 H2 h2 A2 e2 => k b s2 F2 H2 h2 A2 (e1.trans e2)⟩
    | true => exact k true s1 F1 H1 h1 A1 e1⟩
theorem tt_w (h : PW X e (tT B Γ mt)) : PT X e (tT B Γ mt) := h.pt
theorem te_and1 (h : PE X a (tE B Γ RBool mt)) {op} : PE X (.BoolOp op [a] pos) (tE B Γ RBool mt) := pe_one h
theorem te_and {rest : List Expr} (h : PE X a (tE B Γ RBool mt)) (h' : PE X (.BoolOp .And (b :: rest) pos) (tE B Γ RBool mt')) : PE X (.BoolOp .And (a :: b :: rest) pos) (tE B Γ RBool (fun s K => mt s fun x s1 => if x = true then mt' s1 K else K false s1)) :=
  pe_imp (pe_and h h') fun σ H Q ⟨s, F, K', A, hm, k⟩ => ⟨s, F, _, A, hm, fun x s1 v F1 H1 h1 A1 e1 r1 => by
    refine ⟨x, r1, ?_⟩
    cases x with
    | true => exact ⟨s1, F1, _, A1, h1, fun b s2 v2 F2 H2 h2 A2 e2 r2 => k b s2 v2 F2 H2 h2 A2 (e1.trans e2) r2⟩
    | false => exact k false s1 _ F1 H1 h1 A1 e1 rfl⟩
theorem te_or {rest : List Expr} (h : PE X a (tE B Γ RBool mt)) (h' : PE X (.BoolOp .Or (b :: rest) pos) (tE B Γ RBool mt')) : PE X (.BoolOp .Or (a :: b :: rest) pos) (tE B Γ RBool (fun s K => mt s fun x s1 => if x = true then K true s1 else mt' s1 K)) :=
  pe_imp (pe_or h h') fun σ H Q ⟨s, F, K', A, hm, k⟩ => ⟨s, F, _, A, hm, fun x s1 v F1 H1 h1 A1 e1 r1 => by
    refine ⟨x, r1, ?_⟩
    cases x with
    | false => exact ⟨s1, F1, _, A1, h1, fun b s2 v2 F2 H2 h2 A2 e2 r2 => k b s2 v2 F2 H2 h2 A2 (e1.trans e2) r2⟩
    | true => exact k true s1 _ F1 H1 h1 A1 e1 rfl⟩
theorem te_if {ma' : S → (α → S → Prop) → Prop} (hc : PT X c (tT B Γ mt)) (ha : PE X a (tE B Γ R ma)) (hb : PE X b (tE B Γ R ma')) : PE X (.IfExp c a b pos) (tE B Γ R (fun s K => mt s fun x s1 => if x = true then ma s1 K else ma' s1 K)) :=
  pe_imp (pe_ifExp hc ha hb) fun σ H Q ⟨s, F, K', A, hm, k⟩ => ⟨s, F, _, A, hm, fun x s1 F1 H1 h1 A1 e1 => by
    cases x with
    | true => exact ⟨s1, F1, _, A1, h1, fun b s2 v2 F2 H2 h2 A2 e2 r2 => k b s2 v2 F2 H2 h2 A2 (e1.trans e2) r2⟩
    | false => exact ⟨s1, F1, _, A1, h1, fun b s2 v2 F2 H2 h2 A2 e2 r2 => k b s2 v2 F2 H2 h2 A2 (e1.trans e2) r2⟩⟩
/-- a < b < c -/
theorem tt_chain {op op' : CmpOp} {f : α → β → Bool} {g : β → γ → Bool} {mc : S → (γ → S → Prop) → Prop} (h : CR X op Ra Rb f) (h' : CR X op' Rb Rc g) (ha : PE X a (tE B Γ Ra ma)) (hb : PE X b (tE B Γ Rb mb)) (hc : PE X c (tE B Γ Rc mc)) (hm : lastMarks [op, op'] [b, c] = false := by with_unfolding_all rfl) :
    PT X (.Compare a [op, op'] [b, c] pos) (tT B Γ (fun s K => ma s fun x s1 => mb s1 fun y s2 => if f x y = true then mc s2 fun z s3 => K (g y z) s3 else K false s2)) := by
  obtain ⟨r, h1, h2⟩ := h
  obtain ⟨r', h1', h2'⟩ := h'
  refine pt_imp (pt_chain h1 h1' ha hb hc hm) fun σ H Q ⟨s, F, K', A, hm, k⟩ => ?_
  exact ⟨s, F, _, A, hm, fun x s1 v F1 H1 q1 A1 e1 r1 => ⟨s1, F1, _, A1, q1, fun y s2 w F2 H2 kk A2 e2 r2 => h2 x y v w F2 H2 _ ((Ra x).mono _ _ _ e2 r1) r2 A2.sub fun F2' H2' z1 z2 z3 z4 => ⟨f x y, rfl, by
    have A2' := A2.grow z1 z2 z3 z4
    cases hf : f x y with
    | true =>
      rw [hf, if_pos rfl] at kk
      rw [if_pos rfl]
      exact ⟨s2, F2', _, A2', kk, fun z s3 u F3 H3 k3 A3 e3 r3 => h2' y z w u F3 H3 _ ((Rb y).mono _ _ _ (z1.trans e3) r2) r3 A3.sub fun F4 H4 y1 y2 y3 y4 => ⟨g y z, rfl, k _ s3 F4 H4 k3 (A3.grow y1 y2 y3 y4) ((((e1.trans e2).trans z1).trans e3).trans y1)⟩⟩
    | false =>
      rw [hf, if_neg Bool.false_ne_true] at kk
      rw [if_neg Bool.false_ne_true]
      exact ⟨false, rfl, k false s2 F2' H2' kk A2' ((e1.trans e2).trans z1)⟩⟩⟩⟩
theorem te_chain {op op' : CmpOp} {f : α → β → Bool} {g : β → γ → Bool} {mc : S → (γ → S → Prop) → Prop} (h : CR X op Ra Rb f) (h' : CR X op' Rb Rc g) (ha : PE X a (tE B Γ Ra ma)) (hb : PE X b (tE B Γ Rb mb)) (hc : PE X c (tE B Γ Rc mc)) (hm : lastMarks [op, op'] [b, c] = false := by with_unfolding_all rfl) :
    PE X (.Compare a [op, op'] [b, c] pos) (tE B Γ RBool (fun s K => ma s fun x s1 => mb s1 fun y s2 => if f x y = true then mc s2 fun z s3 => K (g y z) s3 else K false s2)) := by
  obtain ⟨r, h1, h2⟩ := h
  obtain ⟨r', h1', h2'⟩ := h'
  refine pe_imp (pe_chain h1 h1' ha hb hc hm) fun σ H Q ⟨s, F, K', A, hm, k⟩ => ?_
  exact ⟨s, F, _, A, hm, fun x s1 v F1 H1 q1 A1 e1 r1 => ⟨s1, F1, _, A1, q1, fun y s2 w F2 H2 kk A2 e2 r2 => h2 x y v w F2 H2 _ ((Ra x).mono _ _ _ e2 r1) r2 A2.sub fun F2' H2' z1 z2 z3 z4 => ⟨f x y, rfl, by
    have A2' := A2.grow z1 z2 z3 z4
    cases hf : f x y with
    | true =>
      rw [hf, if_pos rfl] at kk
      rw [if_pos rfl]
      exact ⟨s2, F2', _, A2', kk, fun z s3 u F3 H3 k3 A3 e3 r3 => h2' y z w u F3 H3 _ ((Rb y).mono _ _ _ (z1.trans e3) r2) r3 A3.sub fun F4 H4 y1 y2 y3 y4 => k _ s3 _ F4 H4 k3 (A3.grow y1 y2 y3 y4) ((((e1.trans e2).trans z1).trans e3).trans y1) rfl⟩
    | false =>
      rw [hf, if_neg Bool.false_ne_true] at kk
      rw [if_neg Bool.false_ne_true]
      exact k false s2 _ F2' H2' kk A2' ((e1.trans e2).trans z1) rfl⟩⟩⟩

/-! ### arguments, displays -/
variable {As : ι → List Pd} {mr : S → (ι → S → Prop) → Prop} {es : List Expr}
theorem ta_nil : PA X [] (tA B Γ anil (fun s K => K () s)) := pa_imp pa_nil fun σ H Q ⟨s, F, K', A, hm, k⟩ => k () s [] F H hm A (Same.refl F) trivial
theorem ta_cons (h : PE X e (tE B Γ R m)) (hr : PA X es (tA B Γ As mr)) (hs : starEach (e :: es) X.env = (false, eval e X.env) :: starEach es X.env := by rfl) : PA X (e :: es) (tA B Γ (acons R As) (fun s K => m s fun x s1 => mr s1 fun y s2 => K (x, y) s2)) :=
  pa_imp (pa_cons h hr hs) fun σ H Q ⟨s, F, K', A, hm, k⟩ => ⟨s, F, _, A, hm, fun x s1 v F1 H1 q1 A1 e1 r1 => ⟨s1, F1, _, A1, q1, fun y s2 vs F2 H2 q2 A2 e2 r2 => k (x, y) s2 (v :: vs) F2 H2 q2 A2 (e1.trans e2) ⟨(R x).mono _ _ _ e2 r1, r2⟩⟩⟩
/-- items of one kind -/
def tL {S α : Type} (B : Bs) (Γ : S → List Sl) (R : α → Pd) (m : S → (List α → S → Prop) → Prop) : TA := fun σ H Q =>
  ∃ s F K, At B (Γ s) σ F H ∧ m s K ∧ ∀ xs s' vs F' H', K xs s' → At B (Γ s') σ F' H' → Same F F' → AllR R xs vs F' → Q vs H'
theorem tl_nil : PA X [] (tL B Γ R (fun s K => K [] s)) := pa_imp pa_nil fun σ H Q ⟨s, F, K', A, hm, k⟩ => k [] s [] F H hm A (Same.refl F) trivial
theorem tl_cons {ml : S → (List α → S → Prop) → Prop} (h : PE X e (tE B Γ R m)) (hr : PA X es (tL B Γ R ml)) (hs : starEach (e :: es) X.env = (false, eval e X.env) :: starEach es X.env := by rfl) : PA X (e :: es) (tL B Γ R (fun s K => m s fun x s1 => ml s1 fun y s2 => K (x :: y) s2)) :=
  pa_imp (pa_cons h hr hs) fun σ H Q ⟨s, F, K', A, hm, k⟩ => ⟨s, F, _, A, hm, fun x s1 v F1 H1 q1 A1 e1 r1 => ⟨s1, F1, _, A1, q1, fun y s2 vs F2 H2 q2 A2 e2 r2 => k (x :: y) s2 (v :: vs) F2 H2 q2 A2 (e1.trans e2) ⟨(R x).mono _ _ _ e2 r1, r2⟩⟩⟩
theorem smallLen {n : Nat} (h : n ≤ 1000000) : n ≤ sizeLine := Nat.le_trans h (by decide)
theorem tn_list {ml : S → (List α → S → Prop) → Prop} (h : PA X es (tL B Γ R ml)) : PE X (.List es pos) (tN B Γ R (fun s K => ml s fun xs s1 => xs.length ≤ 1000000 ∧ K xs s1)) :=
  pe_imp (pe_lst h) fun σ H Q ⟨s, F, K', A, hm, k⟩ => ⟨s, F, _, A, hm, fun xs s1 vs F1 H1 ⟨q0, q1⟩ A1 e1 r1 => ⟨by rw [r1.len]; exact smallLen q0, fun p np => by
    have fr := A1.fresh np
    exact k xs s1 p vs F1 _ q1 (A1.layH np) e1 upd_same fr.1 fr.2 (A1.notOwn np) r1⟩⟩
theorem te_tuple {ml : S → (List α → S → Prop) → Prop} {x1} (h : PA X es (tL B Γ R ml)) : PE X (.Tuple es x1 pos) (tE B Γ (RTup K R) (fun s K => ml s fun xs s1 => xs.length ≤ 1000000 ∧ K xs s1)) :=
  pe_imp (pe_tup h) fun σ H Q ⟨s, F, K', A, hm, k⟩ => ⟨s, F, _, A, hm, fun xs s1 vs F1 H1 ⟨q0, q1⟩ A1 e1 r1 => ⟨by rw [r1.len]; exact smallLen q0, fun p np => by
    obtain ⟨A2, e2⟩ := A1.lay (o := .tup vs) np
    exact k xs s1 (.ref p) _ _ q1 A2 (e1.trans e2) ⟨p, vs, rfl, SqT.of upd_same, r1.mono e2⟩⟩⟩
theorem te_pair {x1} (ha : PE X a (tE B Γ Ra ma)) (hb : PE X b (tE B Γ Rb mb)) (hs : starEach [a, b] X.env = (false, eval a X.env) :: starEach [b] X.env := by rfl) (hs2 : starEach [b] X.env = (false, eval b X.env) :: starEach [] X.env := by rfl) :
    PE X (.Tuple [a, b] x1 pos) (tE B Γ (RPair K Ra Rb) (fun s K => ma s fun x s1 => mb s1 fun y s2 => K (x, y) s2)) :=
  pe_imp (pe_tup (ta_cons ha (ta_cons hb ta_nil hs2) hs)) fun σ H Q ⟨s, F, K', A, hm, k⟩ => ⟨s, F, fun x s' => K' (x.1, x.2.1) s', A, hm, fun x s1 vs F1 H1 q1 A1 e1 r1 => by
    obtain ⟨x, y, u⟩ := x
    match vs, r1 with
    | [v1, v2], ⟨r1, r2, _⟩ =>
      refine ⟨by show 2 ≤ sizeLine; decide, fun p np => ?_⟩
      obtain ⟨A2, e2⟩ := A1.lay (o := .tup [v1, v2]) np
      exact k (x, y) s1 (.ref p) _ _ q1 A2 (e1.trans e2) ⟨p, v1, v2, rfl, SqT.of upd_same, (Ra x).mono _ _ _ e2 r1, (Rb y).mono _ _ _ e2 r2⟩⟩
end
end TL
namespace TL
open PySem L2

section
variable {X : Cx} {S : Type} {B : Bs} {Γ : S → List Sl} {K : PySem.W.Frag} {α β γ ι : Type} {R Ra : α → Pd} {Rb : β → Pd} {Rc : γ → Pd} {e a b c : Expr} {pos p : Pos} {x : Str} {idn T : String}
variable {m ma : S → (α → S → Prop) → Prop} {mb : S → (β → S → Prop) → Prop}

/-! ### built-ins of one argument -/
def B1 (r : List V → Hp → VK → Prop) (Ra : α → Pd) (Rc : γ → Pd) (co : α → Prop) (f : α → γ) : Prop := ∀ x v F H (Q : VK), (Ra x).p v F → Same F H → co x → (∀ u, (Rc (f x)).p u F → Q u H) → r [v] H Q
def B1U (r : List V → Hp → VK → Prop) (Ra : α → Pd) (Rc : γ → Pd) (f : α → γ) : Prop := ∀ x v F H (Q : VK), (Ra x).p v F → Same F H → (∀ u, (Rc (f x)).p u F → Q u H) → r [v] H Q
def B1N (r : List V → Hp → VK → Prop) (Ra : α → Pd) (Rc : γ → Pd) (f : α → List γ) : Prop := ∀ x v F H (Q : VK), (Ra x).p v F → Same F H → (∀ p vs, H p = none → AllR Rc (f x) vs F → Q (.ref p) (upd H p (.lst vs))) → r [v] H Q
/-- a tuple, new or not -/
def B1T (K : PySem.W.Frag) (r : List V → Hp → VK → Prop) (Ra : α → Pd) (Rc : γ → Pd) (f : α → List γ) : Prop := ∀ x v F H (Q : VK), (Ra x).p v F → Same F H → (∀ p vs, SqT K F p vs → AllR Rc (f x) vs F → Q (.ref p) H) → (∀ p vs, H p = none → AllR Rc (f x) vs F → Q (.ref p) (upd H p (.tup vs))) → r [v] H Q
theorem tcb_v {r : List V → Hp → VK → Prop} {co : α → Prop} {f : α → γ} (h : B1 r Ra Rc co f) {σ : L2.St} {H : Hp} {Q : VK} (q : tE B Γ Rc (fun s K => ma s fun y s1 => co y ∧ K (f y) s1) σ H Q) : tCB r (tCons (tE B Γ Ra ma) tNil) σ H Q := by
  obtain ⟨s, F, K', A, hm, k⟩ := q
  exact ⟨s, F, _, A, hm, fun y s1 v F1 H1 ⟨h0, h1⟩ A1 e1 r1 => h y v F1 H1 Q r1 A1.sub h0 fun u ru => k _ s1 u F1 H1 h1 A1 e1 ru⟩
theorem tcb_u {r : List V → Hp → VK → Prop} {f : α → γ} (h : B1U r Ra Rc f) {σ : L2.St} {H : Hp} {Q : VK} (q : tE B Γ Rc (fun s K => ma s fun y s1 => K (f y) s1) σ H Q) : tCB r (tCons (tE B Γ Ra ma) tNil) σ H Q := by
  obtain ⟨s, F, K', A, hm, k⟩ := q
  exact ⟨s, F, _, A, hm, fun y s1 v F1 H1 h1 A1 e1 r1 => h y v F1 H1 Q r1 A1.sub fun u ru => k _ s1 u F1 H1 h1 A1 e1 ru⟩
theorem tcb_n {r : List V → Hp → VK → Prop} {f : α → List γ} (h : B1N r Ra Rc f) {σ : L2.St} {H : Hp} {Q : VK} (q : tN B Γ Rc (fun s K => ma s fun y s1 => K (f y) s1) σ H Q) : tCB r (tCons (tE B Γ Ra ma) tNil) σ H Q := by
  obtain ⟨s, F, K', A, hm, k⟩ := q
  exact ⟨s, F, _, A, hm, fun y s1 v F1 H1 h1 A1 e1 r1 => h y v F1 H1 Q r1 A1.sub fun p vs np av => by
    have fr := A1.fresh np
    exact k _ s1 p vs F1 _ h1 (A1.layH np) e1 upd_same fr.1 fr.2 (A1.notOwn np) av⟩
theorem tcb_t {r : List V → Hp → VK → Prop} {f : α → List γ} (h : B1T K r Ra Rc f) {σ : L2.St} {H : Hp} {Q : VK} (q : tE B Γ (RTup K Rc) (fun s K => ma s fun y s1 => K (f y) s1) σ H Q) : tCB r (tCons (tE B Γ Ra ma) tNil) σ H Q := by
  obtain ⟨s, F, K', A, hm, k⟩ := q
  refine ⟨s, F, _, A, hm, fun y s1 v F1 H1 h1 A1 e1 r1 => h y v F1 H1 Q r1 A1.sub (fun p vs ht av => k _ s1 _ F1 H1 h1 A1 e1 ⟨p, vs, rfl, ht, av⟩) fun p vs np av => ?_⟩
  obtain ⟨A2, e2⟩ := A1.lay (o := .tup vs) np
  exact k _ s1 _ _ _ h1 A2 (e1.trans e2) ⟨p, vs, rfl, SqT.of upd_same, av.mono e2⟩
/-- the place of a call of a built-in function, of a built-in type -/
structure BP (X : Cx) (x : Str) (u : Value) : Prop where
  g : Gl X x
  m : X.mg x = none
  v : bootBuiltins x = some u
  n : x ≠ "__name__"
  d : (x == ("__debug__" : Str)) = false
theorem pe_bf {r : List V → Hp → VK → Prop} {t : TA} (P : BP X x (.builtin idn)) (hc : CallR X (.builtin idn) r) (ha : PA X [a] t) (he : starEach [a] X.env = (false, eval a X.env) :: starEach [] X.env := by rfl) (hpl : (backTo pos (starEach [] X.env)).any (·.1) = false := by rfl) :
    PE X (.Call (.Name x p) [a] [] pos) (tCB r t) := pe_callB hc P.g P.m P.v ha P.n P.d he hpl
theorem pe_bt {r : List V → Hp → VK → Prop} {t : TA} (P : BP X x (.type T)) (hc : CallR X (.type T) r) (ha : PA X [a] t) (he : starEach [a] X.env = (false, eval a X.env) :: starEach [] X.env := by rfl) (hpl : (backTo pos (starEach [] X.env)).any (·.1) = false := by rfl) :
    PE X (.Call (.Name x p) [a] [] pos) (tCB r t) := pe_callTy hc P.g P.m P.v ha P.n P.d he hpl
theorem bp_len (hm : X.mg "len" = none) (hg : Gl X "len" := by rfl) : BP X "len" (.builtin "len") := ⟨hg, hm, PySem.boot_len, by decide, by decide⟩
theorem bp_abs (hm : X.mg "abs" = none) (hg : Gl X "abs" := by rfl) : BP X "abs" (.builtin "abs") := ⟨hg, hm, by decide +kernel, by decide, by decide⟩
theorem bp_all (hm : X.mg "all" = none) (hg : Gl X "all" := by rfl) : BP X "all" (.builtin "all") := ⟨hg, hm, by decide +kernel, by decide, by decide⟩
theorem bp_any (hm : X.mg "any" = none) (hg : Gl X "any" := by rfl) : BP X "any" (.builtin "any") := ⟨hg, hm, by decide +kernel, by decide, by decide⟩
theorem bp_sum (hm : X.mg "sum" = none) (hg : Gl X "sum" := by rfl) : BP X "sum" (.builtin "sum") := ⟨hg, hm, by decide +kernel, by decide, by decide⟩
theorem bp_sorted (hm : X.mg "sorted" = none) (hg : Gl X "sorted" := by rfl) : BP X "sorted" (.builtin "sorted") := ⟨hg, hm, by decide +kernel, by decide, by decide⟩
theorem bp_min (hm : X.mg "min" = none) (hg : Gl X "min" := by rfl) : BP X "min" (.builtin "min") := ⟨hg, hm, by decide +kernel, by decide, by decide⟩
theorem bp_max (hm : X.mg "max" = none) (hg : Gl X "max" := by rfl) : BP X "max" (.builtin "max") := ⟨hg, hm, by decide +kernel, by decide, by decide⟩
theorem bp_isi (hm : X.mg "isinstance" = none) (hg : Gl X "isinstance" := by rfl) : BP X "isinstance" (.builtin "isinstance") := ⟨hg, hm, by decide +kernel, by decide, by decide⟩
theorem bp_list (hm : X.mg "list" = none) (hg : Gl X "list" := by rfl) : BP X "list" (.type "list") := ⟨hg, hm, by decide +kernel, by decide, by decide⟩
theorem bp_tuple (hm : X.mg "tuple" = none) (hg : Gl X "tuple" := by rfl) : BP X "tuple" (.type "tuple") := ⟨hg, hm, by decide +kernel, by decide, by decide⟩
theorem bp_int (hm : X.mg "int" = none) (hg : Gl X "int" := by rfl) : BP X "int" (.type "int") := ⟨hg, hm, by decide +kernel, by decide, by decide⟩
theorem bp_bool (hm : X.mg "bool" = none) (hg : Gl X "bool" := by rfl) : BP X "bool" (.type "bool") := ⟨hg, hm, by decide +kernel, by decide, by decide⟩
theorem bp_str (hm : X.mg "str" = none) (hg : Gl X "str" := by rfl) : BP X "str" (.type "str") := ⟨hg, hm, by decide +kernel, by decide, by decide⟩
/-- what has a length -/
def Lens (K : PySem.W.Frag) (R : α → Pd) (n : α → Nat) : Prop := ∀ x v F, (R x).p v F → ∃ q ys, v = .ref q ∧ (SqL K F q ys ∨ SqT K F q ys) ∧ ys.length = n x
theorem lens_list : Lens K (RList K R) List.length := fun x v F ⟨a, vs, h1, h2, h3⟩ => ⟨a, vs, h1, .inl h2, h3.len⟩
theorem lens_tup : Lens K (RTup K R) List.length := fun x v F ⟨a, vs, h1, h2, h3⟩ => ⟨a, vs, h1, .inr h2, h3.len⟩
theorem te_len {n : α → Nat} (P : BP X "len" (.builtin "len")) (hl : Lens K R n) (ha : PE X a (tE B Γ R ma)) (hK : X.K = K := by rfl) (hs : starEach [a] X.env = (false, eval a X.env) :: starEach [] X.env := by rfl) (hpl : (backTo pos (starEach [] X.env)).any (·.1) = false := by rfl) :
    PE X (.Call (.Name "len" p) [a] [] pos) (tE B Γ RInt (fun s K => ma s fun y s1 => K (n y : Int) s1)) := by
  subst hK
  refine pe_imp (pe_bf P call_len_seq (pa_cons ha pa_nil hs) hs hpl) fun _ _ _ q => tcb_u (f := fun y => (n y : Int)) (fun x v F H Q hx e q => ?_) q
  obtain ⟨w, ys, h1, h2, h3⟩ := hl x v F hx
  subst h1
  exact ⟨w, ys, rfl, h2.imp (seqL_mono e) (seqT_mono e), by rw [h3]; exact q _ rfl⟩
theorem te_lenS {ma : S → (Str → S → Prop) → Prop} (P : BP X "len" (.builtin "len")) (ha : PE X a (tE B Γ RStr ma)) (hs : starEach [a] X.env = (false, eval a X.env) :: starEach [] X.env := by rfl) (hpl : (backTo pos (starEach [] X.env)).any (·.1) = false := by rfl) :
    PE X (.Call (.Name "len" p) [a] [] pos) (tE B Γ RInt (fun s K => ma s fun y s1 => y.length ≤ sizeLine ∧ K (y.length : Int) s1)) := by
  refine pe_imp (pe_bf P call_len_str (pa_cons ha pa_nil hs) hs hpl) fun _ _ _ q => tcb_v (co := fun y : Str => y.length ≤ sizeLine) (f := fun y : Str => (y.length : Int)) (fun x v F H Q hx e hc q => ?_) q
  exact ⟨x, by rw [show v = V.str x from hx], hc, q _ rfl⟩
theorem te_abs {ma : S → (Int → S → Prop) → Prop} (P : BP X "abs" (.builtin "abs")) (ha : PE X a (tE B Γ RInt ma)) (hs : starEach [a] X.env = (false, eval a X.env) :: starEach [] X.env := by rfl) (hpl : (backTo pos (starEach [] X.env)).any (·.1) = false := by rfl) :
    PE X (.Call (.Name "abs" p) [a] [] pos) (tE B Γ RInt (fun s K => ma s fun y s1 => K (y.natAbs : Int) s1)) := by
  refine pe_imp (pe_bf P call_abs (pa_cons ha pa_nil hs) hs hpl) fun _ _ _ q => tcb_u (f := fun y : Int => (y.natAbs : Int)) (fun x v F H Q hx e q => ⟨x, by rw [show v = V.int x from hx], ?_⟩) q
  have : (if x < 0 then -x else x) = (x.natAbs : Int) := by split <;> omega
  rw [this]
  exact q _ rfl
theorem te_toint {ma : S → (Int → S → Prop) → Prop} (P : BP X "int" (.type "int")) (ha : PE X a (tE B Γ RInt ma)) (hs : starEach [a] X.env = (false, eval a X.env) :: starEach [] X.env := by rfl) (hpl : (backTo pos (starEach [] X.env)).any (·.1) = false := by rfl) :
    PE X (.Call (.Name "int" p) [a] [] pos) (tE B Γ RInt (fun s K => ma s fun y s1 => K y s1)) :=
  pe_imp (pe_bt P call_int1 (pa_cons ha pa_nil hs) hs hpl) fun _ _ _ q => tcb_u (f := fun y : Int => y) (fun x v F H Q hx e q => .inl ⟨x, by rw [show v = V.int x from hx], q _ rfl⟩) q
theorem te_bint {ma : S → (Bool → S → Prop) → Prop} (P : BP X "int" (.type "int")) (ha : PE X a (tE B Γ RBool ma)) (hs : starEach [a] X.env = (false, eval a X.env) :: starEach [] X.env := by rfl) (hpl : (backTo pos (starEach [] X.env)).any (·.1) = false := by rfl) :
    PE X (.Call (.Name "int" p) [a] [] pos) (tE B Γ RInt (fun s K => ma s fun y s1 => K (if y then 1 else 0) s1)) :=
  pe_imp (pe_bt P call_int1 (pa_cons ha pa_nil hs) hs hpl) fun _ _ _ q => tcb_u (f := fun y : Bool => if y then (1 : Int) else 0) (fun x v F H Q hx e q => .inr ⟨x, by rw [show v = V.bl x from hx], q _ rfl⟩) q
theorem tn_tolist {ma : S → (List α → S → Prop) → Prop} (P : BP X "list" (.type "list")) (ha : PE X a (tE B Γ (RList K R) ma)) (hK : X.K = K := by rfl) (hs : starEach [a] X.env = (false, eval a X.env) :: starEach [] X.env := by rfl) (hpl : (backTo pos (starEach [] X.env)).any (·.1) = false := by rfl) :
    PE X (.Call (.Name "list" p) [a] [] pos) (tN B Γ R (fun s K => ma s fun y s1 => K y s1)) := by
  subst hK
  exact pe_imp (pe_bt P call_list_of (pa_cons ha pa_nil hs) hs hpl) fun _ _ _ q => tcb_n (f := fun y : List α => y) (fun x v F H Q hx e q => by
    obtain ⟨w, vs, h1, h2, h3⟩ := hx
    subst h1
    exact ⟨w, vs, rfl, .inl (seqL_mono e h2), fun l nl => q l vs nl h3⟩) q
theorem tn_tupList {ma : S → (List α → S → Prop) → Prop} (P : BP X "list" (.type "list")) (ha : PE X a (tE B Γ (RTup K R) ma)) (hK : X.K = K := by rfl) (hs : starEach [a] X.env = (false, eval a X.env) :: starEach [] X.env := by rfl) (hpl : (backTo pos (starEach [] X.env)).any (·.1) = false := by rfl) :
    PE X (.Call (.Name "list" p) [a] [] pos) (tN B Γ R (fun s K => ma s fun y s1 => K y s1)) := by
  subst hK
  exact pe_imp (pe_bt P call_list_of (pa_cons ha pa_nil hs) hs hpl) fun _ _ _ q => tcb_n (f := fun y : List α => y) (fun x v F H Q hx e q => by
    obtain ⟨w, vs, h1, h2, h3⟩ := hx
    subst h1
    exact ⟨w, vs, rfl, .inr (seqT_mono e h2), fun l nl => q l vs nl h3⟩) q
theorem te_tuple_l {ma : S → (List α → S → Prop) → Prop} (P : BP X "tuple" (.type "tuple")) (ha : PE X a (tE B Γ (RList K R) ma)) (hK : X.K = K := by rfl) (hs : starEach [a] X.env = (false, eval a X.env) :: starEach [] X.env := by rfl) (hpl : (backTo pos (starEach [] X.env)).any (·.1) = false := by rfl) :
    PE X (.Call (.Name "tuple" p) [a] [] pos) (tE B Γ (RTup K R) (fun s K => ma s fun y s1 => K y s1)) := by
  subst hK
  exact pe_imp (pe_bt P call_tuple_of (pa_cons ha pa_nil hs) hs hpl) fun _ _ _ q => tcb_t (f := fun y : List α => y) (fun x v F H Q hx e _ q => by
    obtain ⟨w, vs, h1, h2, h3⟩ := hx
    subst h1
    exact ⟨w, vs, rfl, .inl ⟨seqL_mono e h2, fun l nl => q l vs nl h3⟩⟩) q
theorem te_tuple_t {ma : S → (List α → S → Prop) → Prop} (P : BP X "tuple" (.type "tuple")) (ha : PE X a (tE B Γ (RTup K R) ma)) (hK : X.K = K := by rfl) (hs : starEach [a] X.env = (false, eval a X.env) :: starEach [] X.env := by rfl) (hpl : (backTo pos (starEach [] X.env)).any (·.1) = false := by rfl) :
    PE X (.Call (.Name "tuple" p) [a] [] pos) (tE B Γ (RTup K R) (fun s K => ma s fun y s1 => K y s1)) := by
  subst hK
  exact pe_imp (pe_bt P call_tuple_of (pa_cons ha pa_nil hs) hs hpl) fun _ _ _ q => tcb_t (f := fun y : List α => y) (fun x v F H Q hx e q _ => by
    obtain ⟨w, vs, h1, h2, h3⟩ := hx
    subst h1
    exact ⟨w, vs, rfl, .inr ⟨seqT_mono e h2, q w vs h2 h3⟩⟩) q
theorem te_all {ma : S → (List Bool → S → Prop) → Prop} (P : BP X "all" (.builtin "all")) (ha : PE X a (tE B Γ (RList K RBool) ma)) (hK : X.K = K := by rfl) (hc : X.calm = true := by rfl) (hs : starEach [a] X.env = (false, eval a X.env) :: starEach [] X.env := by rfl) (hpl : (backTo pos (starEach [] X.env)).any (·.1) = false := by rfl) :
    PE X (.Call (.Name "all" p) [a] [] pos) (tE B Γ RBool (fun s K => ma s fun y s1 => K (y.all id) s1)) := by
  subst hK
  exact pe_imp (pe_bf P (cr_all hc) (pa_cons ha pa_nil hs) hs hpl) fun _ _ _ q => tcb_u (f := fun y : List Bool => y.all id) (fun x v F H Q hx e q => by
    obtain ⟨w, vs, h1, h2, h3⟩ := hx
    subst h1
    have z := AllR.bools.mp h3
    subst z
    exact ⟨w, x, rfl, seqL_mono e h2, q _ rfl⟩) q
theorem te_any {ma : S → (List Bool → S → Prop) → Prop} (P : BP X "any" (.builtin "any")) (ha : PE X a (tE B Γ (RList K RBool) ma)) (hK : X.K = K := by rfl) (hc : X.calm = true := by rfl) (hs : starEach [a] X.env = (false, eval a X.env) :: starEach [] X.env := by rfl) (hpl : (backTo pos (starEach [] X.env)).any (·.1) = false := by rfl) :
    PE X (.Call (.Name "any" p) [a] [] pos) (tE B Γ RBool (fun s K => ma s fun y s1 => K (y.any id) s1)) := by
  subst hK
  exact pe_imp (pe_bf P (cr_any hc) (pa_cons ha pa_nil hs) hs hpl) fun _ _ _ q => tcb_u (f := fun y : List Bool => y.any id) (fun x v F H Q hx e q => by
    obtain ⟨w, vs, h1, h2, h3⟩ := hx
    subst h1
    have z := AllR.bools.mp h3
    subst z
    exact ⟨w, x, rfl, seqL_mono e h2, q _ rfl⟩) q
theorem te_sum {ma : S → (List Int → S → Prop) → Prop} (P : BP X "sum" (.builtin "sum")) (ha : PE X a (tE B Γ (RList K RInt) ma)) (hK : X.K = K := by rfl) (hc : X.calm = true := by rfl) (hs : starEach [a] X.env = (false, eval a X.env) :: starEach [] X.env := by rfl) (hpl : (backTo pos (starEach [] X.env)).any (·.1) = false := by rfl) :
    PE X (.Call (.Name "sum" p) [a] [] pos) (tE B Γ RInt (fun s K => ma s fun y s1 => K y.sum s1)) := by
  subst hK
  exact pe_imp (pe_bf P (cr_sum hc) (pa_cons ha pa_nil hs) hs hpl) fun _ _ _ q => tcb_u (f := fun y : List Int => y.sum) (fun x v F H Q hx e q => by
    obtain ⟨w, vs, h1, h2, h3⟩ := hx
    subst h1
    have z := AllR.ints.mp h3
    subst z
    exact ⟨w, x, rfl, seqL_mono e h2, q _ rfl⟩) q

/-! ### items, slices -/
/-- xs[i] by places as Python counts them -/
def pyAt {α : Type} (xs : List α) (i : Int) : Option α := atI xs i
theorem allR_at {xs : List α} {vs : List V} {F : Hp} {i : Int} {x : α} (h : AllR R xs vs F) (hx : pyAt xs i = some x) : ∃ v, atI vs i = some v ∧ (R x).p v F := by
  unfold pyAt atI at hx
  cases q : ixN xs.length i with
  | none => rw [q] at hx; cases hx
  | some j =>
    rw [q] at hx
    obtain ⟨v, h1, h2⟩ := h.get (i := j) hx
    refine ⟨v, ?_, h2⟩
    unfold atI
    rw [h.len, q]
    exact h1
theorem te_ixL {ma : S → (List α → S → Prop) → Prop} {mb : S → (Int → S → Prop) → Prop} (ha : PE X a (tE B Γ (RList K R) ma)) (hb : PE X b (tE B Γ RInt mb)) (hs : PlainIx b := by exact fun _ _ => rfl) (hK : X.K = K := by rfl) :
    PE X (.Subscript a b pos) (tE B Γ R (fun s K => ma s fun xs s1 => mb s1 fun i s2 => ∃ x, pyAt xs i = some x ∧ K x s2)) := by
  subst hK
  refine pe_imp (pe_ix ix_list ha hb hs) fun σ H Q ⟨s, F, K', A, hm, k⟩ => ⟨s, F, _, A, hm, fun xs s1 v F1 H1 h1 A1 e1 r1 => ⟨s1, F1, _, A1, h1, fun i s2 w F2 H2 ⟨x, hx, kk⟩ A2 e2 r2 => ?_⟩⟩
  obtain ⟨q, vs, rfl, h2, h3⟩ := r1
  obtain ⟨u, hu, ru⟩ := allR_at (h3.mono e2) hx
  exact ⟨q, vs, i, u, rfl, r2, seqL_mono A2.sub (seqL_mono e2 h2), hu, k x s2 u F2 H2 kk A2 (e1.trans e2) ru⟩
theorem te_ixT {ma : S → (List α → S → Prop) → Prop} {mb : S → (Int → S → Prop) → Prop} (ha : PE X a (tE B Γ (RTup K R) ma)) (hb : PE X b (tE B Γ RInt mb)) (hs : PlainIx b := by exact fun _ _ => rfl) (hK : X.K = K := by rfl) :
    PE X (.Subscript a b pos) (tE B Γ R (fun s K => ma s fun xs s1 => mb s1 fun i s2 => ∃ x, pyAt xs i = some x ∧ K x s2)) := by
  subst hK
  refine pe_imp (pe_ix ix_tup ha hb hs) fun σ H Q ⟨s, F, K', A, hm, k⟩ => ⟨s, F, _, A, hm, fun xs s1 v F1 H1 h1 A1 e1 r1 => ⟨s1, F1, _, A1, h1, fun i s2 w F2 H2 ⟨x, hx, kk⟩ A2 e2 r2 => ?_⟩⟩
  obtain ⟨q, vs, rfl, h2, h3⟩ := r1
  obtain ⟨u, hu, ru⟩ := allR_at (h3.mono e2) hx
  exact ⟨q, vs, i, u, rfl, r2, seqT_mono A2.sub (seqT_mono e2 h2), hu, k x s2 u F2 H2 kk A2 (e1.trans e2) ru⟩
theorem te_fst {ma : S → (α × β → S → Prop) → Prop} (ha : PE X a (tE B Γ (RPair K Ra Rb) ma)) {j pb} (hs : PlainIx (.Constant (.int 0) j pb) := by exact fun _ _ => rfl) (hK : X.K = K := by rfl) :
    PE X (.Subscript a (.Constant (.int 0) j pb) pos) (tE B Γ Ra (fun s K => ma s fun x s1 => K x.1 s1)) := by
  subst hK
  refine pe_imp (pe_ix ix_tup ha pe_int hs) fun σ H Q ⟨s, F, K', A, hm, k⟩ => ⟨s, F, _, A, hm, fun x s1 v F1 H1 h1 A1 e1 r1 => ?_⟩
  obtain ⟨q, v1, v2, rfl, h2, h3, h4⟩ := r1
  exact ⟨q, _, 0, v1, rfl, rfl, seqT_mono A1.sub h2, rfl, k _ s1 v1 F1 H1 h1 A1 e1 h3⟩
theorem te_snd {ma : S → (α × β → S → Prop) → Prop} (ha : PE X a (tE B Γ (RPair K Ra Rb) ma)) {j pb} (hs : PlainIx (.Constant (.int 1) j pb) := by exact fun _ _ => rfl) (hK : X.K = K := by rfl) :
    PE X (.Subscript a (.Constant (.int 1) j pb) pos) (tE B Γ Rb (fun s K => ma s fun x s1 => K x.2 s1)) := by
  subst hK
  refine pe_imp (pe_ix ix_tup ha pe_int hs) fun σ H Q ⟨s, F, K', A, hm, k⟩ => ⟨s, F, _, A, hm, fun x s1 v F1 H1 h1 A1 e1 r1 => ?_⟩
  obtain ⟨q, v1, v2, rfl, h2, h3, h4⟩ := r1
  exact ⟨q, _, 1, v2, rfl, rfl, seqT_mono A1.sub h2, rfl, k _ s1 v2 F1 H1 h1 A1 e1 h4⟩
/-- xs[lo:hi] -/
def pyCut {α : Type} (xs : List α) (lo hi : Option Int) : List α := (xs.drop (HT.sIx xs.length 0 lo)).take (HT.sIx xs.length xs.length hi - HT.sIx xs.length 0 lo)
theorem allR_cut {xs : List α} {vs : List V} {F : Hp} (h : AllR R xs vs F) (lo hi : Option Int) : AllR R (pyCut xs lo hi) (cutV vs lo hi) F := by
  unfold pyCut cutV
  rw [h.len]
  exact (h.drop _).take _
variable {mo mo' : S → (Option Int → S → Prop) → Prop} {lo hi : Option Expr} {p2 : Pos}
theorem to_none : PO X none (tO B Γ (fun s K => K none s)) := po_imp po_none fun σ H Q ⟨s, F, K', A, hm, k⟩ => k none s F H hm A (Same.refl F)
theorem to_some {ma : S → (Int → S → Prop) → Prop} (h : PE X e (tE B Γ RInt ma)) : PO X (some e) (tO B Γ (fun s K => ma s fun i s1 => K (some i) s1)) :=
  po_imp (po_some h) fun σ H Q ⟨s, F, K', A, hm, k⟩ => ⟨s, F, _, A, hm, fun i s1 v F1 H1 h1 A1 e1 r1 => ⟨i, r1, k (some i) s1 F1 H1 h1 A1 e1⟩⟩
theorem tn_cut {ma : S → (List α → S → Prop) → Prop} (ha : PE X a (tE B Γ (RList K R) ma)) (hl : PO X lo (tO B Γ mo)) (hh : PO X hi (tO B Γ mo')) (hK : X.K = K := by rfl) :
    PE X (.Subscript a (.Slice lo hi none p2) pos) (tN B Γ R (fun s K => ma s fun xs s1 => mo s1 fun l s2 => mo' s2 fun h s3 => K (pyCut xs l h) s3)) := by
  subst hK
  refine pe_imp (pe_slice sl_list ha hl hh) fun σ H Q ⟨s, F, K', A, hm, k⟩ => ⟨s, F, _, A, hm, fun xs s1 v F1 H1 h1 A1 e1 r1 => ⟨s1, F1, _, A1, h1, fun l s2 F2 H2 h2 A2 e2 => ⟨s2, F2, _, A2, h2, fun u s3 F3 H3 h3 A3 e3 => ?_⟩⟩⟩
  obtain ⟨q, vs, rfl, hq, av⟩ := r1
  refine ⟨q, vs, rfl, seqL_mono A3.sub (seqL_mono e3 (seqL_mono e2 hq)), fun p np => ?_⟩
  have fr := A3.fresh np
  exact k _ s3 p _ F3 _ h3 (A3.layH np) ((e1.trans e2).trans e3) upd_same fr.1 fr.2 (A3.notOwn np) (allR_cut ((av.mono e2).mono e3) l u)
theorem te_cutT {ma : S → (List α → S → Prop) → Prop} (ha : PE X a (tE B Γ (RTup K R) ma)) (hl : PO X lo (tO B Γ mo)) (hh : PO X hi (tO B Γ mo')) (hK : X.K = K := by rfl) :
    PE X (.Subscript a (.Slice lo hi none p2) pos) (tE B Γ (RTup K R) (fun s K => ma s fun xs s1 => mo s1 fun l s2 => mo' s2 fun h s3 => K (pyCut xs l h) s3)) := by
  subst hK
  refine pe_imp (pe_slice sl_tupA ha hl hh) fun σ H Q ⟨s, F, K', A, hm, k⟩ => ⟨s, F, _, A, hm, fun xs s1 v F1 H1 h1 A1 e1 r1 => ⟨s1, F1, _, A1, h1, fun l s2 F2 H2 h2 A2 e2 => ⟨s2, F2, _, A2, h2, fun u s3 F3 H3 h3 A3 e3 => ?_⟩⟩⟩
  obtain ⟨q, vs, rfl, hq, av⟩ := r1
  have hq3 := seqT_mono e3 (seqT_mono e2 hq)
  have av3 := (av.mono e2).mono e3
  refine ⟨q, vs, rfl, seqT_mono A3.sub hq3, fun hw => ?_, fun _ p np => ?_⟩
  · refine k _ s3 _ F3 H3 h3 A3 ((e1.trans e2).trans e3) ⟨q, vs, rfl, hq3, ?_⟩
    have := allR_cut av3 l u
    unfold cutV at this
    rw [hw.1, hw.2, List.drop_zero, Nat.sub_zero, List.take_length] at this
    exact this
  · obtain ⟨A4, e4⟩ := A3.lay (o := .tup (cutV vs l u)) np
    exact k _ s3 _ _ _ h3 A4 (((e1.trans e2).trans e3).trans e4) ⟨p, _, rfl, SqT.of upd_same, (allR_cut av3 l u).mono e4⟩
theorem tn_rev {ma : S → (List α → S → Prop) → Prop} {k1 p1 p3} (ha : PE X a (tE B Γ (RList K R) ma)) (hK : X.K = K := by rfl) :
    PE X (.Subscript a (.Slice none none (some (.UnaryOp .USub (.Constant (.int 1) k1 p1) p2)) p3) pos) (tN B Γ R (fun s K => ma s fun xs s1 => K xs.reverse s1)) := by
  subst hK
  refine pe_imp (pe_revL ha) fun σ H Q ⟨s, F, K', A, hm, k⟩ => ⟨s, F, _, A, hm, fun xs s1 v F1 H1 h1 A1 e1 r1 => ?_⟩
  obtain ⟨q, vs, rfl, hq, av⟩ := r1
  refine ⟨q, vs, rfl, seqL_mono A1.sub hq, fun p np => ?_⟩
  have fr := A1.fresh np
  exact k _ s1 p _ F1 _ h1 (A1.layH np) e1 upd_same fr.1 fr.2 (A1.notOwn np) av.reverse

/-! ### put behind one another, so many times -/
theorem tn_cat {ma mb : S → (List α → S → Prop) → Prop} (ha : PE X a (tE B Γ (RLst R) ma)) (hb : PE X b (tE B Γ (RLst R) mb)) :
    PE X (.BinOp a .Add b pos) (tN B Γ R (fun s K => ma s fun x s1 => mb s1 fun y s2 => x.length + y.length ≤ 1000000 ∧ K (x ++ y) s2)) :=
  tn_op (Ra := RLst R) (Rb := RLst R) (Rc := R) (f := fun x y => x ++ y) (co := fun x y : List α => x.length + y.length ≤ 1000000) op_cat (fun x y v w F H Q ⟨q1, vs, h1, h2, h3⟩ ⟨q2, ws, k1, k2, k3⟩ e hc q => by
    subst h1; subst k1
    exact ⟨q1, q2, vs, ws, rfl, rfl, e _ _ h2, e _ _ k2, by rw [h3.len, k3.len]; exact smallLen hc, fun p np => q p _ np (h3.append k3)⟩) ha hb
theorem te_catT {ma mb : S → (List α → S → Prop) → Prop} (ha : PE X a (tE B Γ (RTup K R) ma)) (hb : PE X b (tE B Γ (RTup K R) mb)) (hK : X.K = K := by rfl) :
    PE X (.BinOp a .Add b pos) (tE B Γ (RTup K R) (fun s K => ma s fun x s1 => mb s1 fun y s2 => x.length + y.length ≤ 1000000 ∧ K (x ++ y) s2)) := by
  subst hK
  refine pe_imp (pe_op op_catA ha hb) fun σ H Q ⟨s, F, K', A, hm, k⟩ => ⟨s, F, _, A, hm, fun xs s1 v F1 H1 h1 A1 e1 r1 => ⟨s1, F1, _, A1, h1, fun ys s2 w F2 H2 ⟨hc, h2⟩ A2 e2 r2 => ?_⟩⟩
  obtain ⟨q1, vs, rfl, hq, av⟩ := r1
  obtain ⟨q2, ws, rfl, hq2, aw⟩ := r2
  have hq := seqT_mono e2 hq
  have av := av.mono e2
  have ac := av.append aw
  refine ⟨q1, q2, vs, ws, rfl, rfl, seqT_mono A2.sub hq, seqT_mono A2.sub hq2, by rw [av.len, aw.len]; exact smallLen hc, fun z => ?_, fun _ z => ?_, fun _ _ p np => ?_⟩
  · subst z
    exact k _ s2 _ F2 H2 h2 A2 (e1.trans e2) ⟨q2, ws, rfl, hq2, ac⟩
  · subst z
    rw [List.append_nil] at ac
    exact k _ s2 _ F2 H2 h2 A2 (e1.trans e2) ⟨q1, vs, rfl, hq, ac⟩
  · obtain ⟨A3, e3⟩ := A2.lay (o := .tup (vs ++ ws)) np
    exact k _ s2 _ _ _ h2 A3 ((e1.trans e2).trans e3) ⟨p, _, rfl, SqT.of upd_same, ac.mono e3⟩
def pyRep {α : Type} (xs : List α) (k : Int) : List α := (List.replicate k.toNat xs).flatten
theorem tn_rep {ma : S → (List α → S → Prop) → Prop} {mb : S → (Int → S → Prop) → Prop} (ha : PE X a (tE B Γ (RLst R) ma)) (hb : PE X b (tE B Γ RInt mb)) :
    PE X (.BinOp a .Mult b pos) (tN B Γ R (fun s K => ma s fun x s1 => mb s1 fun y s2 => (-(2 ^ 63) ≤ y ∧ y < 2 ^ 63 ∧ x.length * y.toNat ≤ 1000000) ∧ K (pyRep x y) s2)) :=
  tn_op (Ra := RLst R) (Rb := RInt) (Rc := R) (f := fun x y => pyRep x y) (co := fun (x : List α) (y : Int) => -(2 ^ 63) ≤ y ∧ y < 2 ^ 63 ∧ x.length * y.toNat ≤ 1000000) op_rep (fun x y v w F H Q ⟨q1, vs, h1, h2, h3⟩ hy e hc q => by
    subst h1
    have hy : w = V.int y := hy
    subst hy
    exact ⟨q1, y, vs, rfl, rfl, e _ _ h2, hc.1, hc.2.1, by rw [h3.len]; exact smallLen hc.2.2, fun p np => q p _ np (h3.rep _)⟩) ha hb
end
end TL
namespace TL
open PySem L2

/-! ### the mirrors of loops -/
def mMap {α β : Type} : List α → (α → (β → Prop) → Prop) → (List β → Prop) → Prop
  | [], _, K => K []
  | x :: xs, f, K => f x fun y => mMap xs f fun ys => K (y :: ys)
def mMapIf {α β : Type} : List α → (α → (Bool → Prop) → Prop) → (α → (β → Prop) → Prop) → (List β → Prop) → Prop
  | [], _, _, K => K []
  | x :: xs, t, f, K => t x fun b => if b = true then f x fun y => mMapIf xs t f fun ys => K (y :: ys) else mMapIf xs t f K
def mFor {α S : Type} : List α → (α → S → (S → Prop) → Prop) → S → (S → Prop) → Prop
  | [], _, s, K => K s
  | x :: xs, f, s, K => f x s fun s' => mFor xs f s' K
def mWhile {S : Type} (t : S → (Bool → S → Prop) → Prop) (f : S → (S → Prop) → Prop) (s : S) (K : S → Prop) : Prop :=
  ∃ W : Nat → S → Prop, (∃ n, W n s) ∧ ∀ n s, W n s → t s fun b s1 => if b = true then f s1 fun s2 => ∃ n', n' < n ∧ W n' s2 else K s1
def mIf {S : Type} (b : Bool) (f g : (S → Prop) → Prop) (K : S → Prop) : Prop := if b = true then f K else g K

theorem mMapIf_true {α β : Type} {f : α → (β → Prop) → Prop} : ∀ {xs : List α} {K : List β → Prop}, mMap xs f K = mMapIf xs (fun _ K => K true) f K
  | [], _ => rfl
  | x :: xs, K => by
    show f x (fun y => mMap xs f fun ys => K (y :: ys)) = (if true = true then f x (fun y => mMapIf xs (fun _ K => K true) f fun ys => K (y :: ys)) else mMapIf xs (fun _ K => K true) f K)
    rw [if_pos rfl]
    congr 1
    funext y
    exact mMapIf_true

/-! ### what is walked -/
def Src {α : Type} (J : It) (F : Hp) (R : α → Pd) (xs : List α) : Prop := ∀ F1 H1, Same F F1 → Same F1 H1 →
  (∀ i, xs.length ≤ i → J.stop i H1) ∧ (∀ i, i < xs.length → J.go i H1) ∧
  ∀ i x v H2, xs[i]? = some x → J.yld i H1 v H2 → ∃ F2, Same F1 F2 ∧ Same H1 H2 ∧ Same F2 H2 ∧ Nw F1 H1 F2 ∧ (R x).p v F2
def tI {S α : Type} (B : Bs) (Γ : S → List Sl) (R : α → Pd) (m : S → (List α → S → Prop) → Prop) : TI := fun σ H Rk =>
  ∃ s F K, At B (Γ s) σ F H ∧ m s K ∧ ∀ xs s' J F' H', K xs s' → At B (Γ s') σ F' H' → Same F F' → Src J F' R xs → Rk J H'
theorem src_list {K : PySem.W.Frag} {α : Type} {R : α → Pd} {F : Hp} {a : Addr} {vs : List V} {xs : List α} (h : SqL K F a vs) (av : AllR R xs vs F) : Src (Itl K a) F R xs := fun F1 H1 e1 e2 => by
  have h1 : SqL K H1 a vs := seqL_mono e2 (seqL_mono e1 h)
  refine ⟨fun i hi => ⟨vs, h1, by rw [av.len]; exact hi⟩, fun i hi => ?_, fun i x v H2 hx hy => ?_⟩
  · obtain ⟨v, hv, _⟩ := av.get (List.getElem?_eq_getElem hi)
    exact ⟨vs, v, h1, hv⟩
  · obtain ⟨w, hw, rw'⟩ := av.get hx
    obtain ⟨e, y⟩ := hy
    subst e
    have := (y vs h1).symm.trans hw
    cases this
    exact ⟨F1, Same.refl _, Same.refl _, e2, Nw.refl, (R x).mono _ _ _ e1 rw'⟩
theorem src_tup {K : PySem.W.Frag} {α : Type} {R : α → Pd} {F : Hp} {a : Addr} {vs : List V} {xs : List α} (h : SqT K F a vs) (av : AllR R xs vs F) : Src (Itt K a) F R xs := fun F1 H1 e1 e2 => by
  have h1 : SqT K H1 a vs := seqT_mono e2 (seqT_mono e1 h)
  refine ⟨fun i hi => ⟨vs, h1, by rw [av.len]; exact hi⟩, fun i hi => ?_, fun i x v H2 hx hy => ?_⟩
  · obtain ⟨v, hv, _⟩ := av.get (List.getElem?_eq_getElem hi)
    exact ⟨vs, v, h1, hv⟩
  · obtain ⟨w, hw, rw'⟩ := av.get hx
    obtain ⟨e, y⟩ := hy
    subst e
    have := (y vs h1).symm.trans hw
    cases this
    exact ⟨F1, Same.refl _, Same.refl _, e2, Nw.refl, (R x).mono _ _ _ e1 rw'⟩
/-- lo, lo + 1, .. below hi -/
def rangeL (lo hi : Int) : List Int := (List.range (hi - lo).toNat).map fun i => lo + (i : Nat)
theorem rangeL_len (lo hi : Int) : (rangeL lo hi).length = (hi - lo).toNat := by unfold rangeL; rw [List.length_map, List.length_range]
theorem src_range {F : Hp} {lo hi : Int} {n : Nat} (hn : n = (hi - lo).toNat) : Src (Itr lo n) F RInt (rangeL lo hi) := fun F1 H1 e1 e2 => by
  subst hn
  refine ⟨fun i hi' => by rw [rangeL_len] at hi'; exact hi', fun i hi' => by rw [rangeL_len] at hi'; exact hi', fun i x v H2 hx hy => ?_⟩
  obtain ⟨e, y⟩ := hy
  subst e
  refine ⟨F1, Same.refl _, Same.refl _, e2, Nw.refl, ?_⟩
  unfold rangeL at hx
  rw [List.getElem?_map] at hx
  cases q : (List.range (hi - lo).toNat)[i]? with
  | none => rw [q] at hx; cases hx
  | some j =>
    rw [q] at hx
    have hj : j = i := by
      obtain ⟨h1, h2⟩ := List.getElem?_eq_some_iff.mp q
      rw [List.getElem_range] at h2
      exact h2.symm
    cases hx
    subst hj
    exact y
theorem zipGet {α β : Type} : ∀ {xs : List α} {ys : List β} {i : Nat} {z : α × β}, (xs.zip ys)[i]? = some z → xs[i]? = some z.1 ∧ ys[i]? = some z.2
  | x :: xs, y :: ys, 0, z, h => by simp at h; subst h; exact ⟨rfl, rfl⟩
  | x :: xs, y :: ys, i + 1, z, h => by
    have := zipGet (i := i) (xs := xs) (ys := ys) (z := z) (by simpa using h)
    simpa using this
  | [], _, i, z, h => by simp at h
  | _ :: _, [], i, z, h => by simp at h
theorem newPair {K : PySem.W.Frag} {α β : Type} {Ra : α → Pd} {Rb : β → Pd} {F1 H1 : Hp} {T : Addr} {x : α} {y : β} {v w : V} (e2 : Same F1 H1) (nT : H1 T = none) (hv : (Ra x).p v F1) (hw : (Rb y).p w F1) :
    ∃ F2, Same F1 F2 ∧ Same H1 (upd H1 T (.tup [v, w])) ∧ Same F2 (upd H1 T (.tup [v, w])) ∧ Nw F1 H1 F2 ∧ (RPair K Ra Rb (x, y)).p (.ref T) F2 := by
  have fT : F1 T = none := by
    cases q : F1 T with
    | none => rfl
    | some o => rw [e2 _ _ q] at nT; cases nT
  refine ⟨upd F1 T (.tup [v, w]), same_upd fT, same_upd nT, fun a u g => ?_, fun a u g => ?_, ⟨T, v, w, rfl, SqT.of upd_same, (Ra x).mono _ _ _ (same_upd fT) hv, (Rb y).mono _ _ _ (same_upd fT) hw⟩⟩
  · by_cases ha : a = T
    · subst ha; rw [upd_same] at g ⊢; exact g
    · rw [upd_ne ha] at g ⊢; exact e2 _ _ g
  · by_cases ha : a = T
    · subst ha; exact .inr nT
    · rw [upd_ne ha] at g; exact .inl g
theorem src_zipT {K : PySem.W.Frag} {α β : Type} {Ra : α → Pd} {Rb : β → Pd} {F : Hp} {a b : Addr} {vs ws : List V} {xs : List α} {ys : List β} (h : SqT K F a vs) (av : AllR Ra xs vs F) (h' : SqT K F b ws) (aw : AllR Rb ys ws F) : Src (RZ.ItzT K a b) F (RPair K Ra Rb) (xs.zip ys) := fun F1 H1 e1 e2 => by
  have h1 : SqT K H1 a vs := seqT_mono e2 (seqT_mono e1 h)
  have h2 : SqT K H1 b ws := seqT_mono e2 (seqT_mono e1 h')
  refine ⟨fun i hi => ⟨vs, ws, h1, h2, ?_⟩, fun i hi => ?_, fun i z v H2 hx hy => ?_⟩
  · rw [List.length_zip] at hi
    rw [av.len, aw.len]; omega
  · rw [List.length_zip] at hi
    obtain ⟨v, hv, _⟩ := av.get (List.getElem?_eq_getElem (show i < xs.length by omega))
    obtain ⟨w, hw, _⟩ := aw.get (List.getElem?_eq_getElem (show i < ys.length by omega))
    exact ⟨vs, ws, v, w, h1, h2, hv, hw⟩
  · obtain ⟨hx1, hx2⟩ := zipGet hx
    obtain ⟨v1, hv, rv⟩ := av.get hx1
    obtain ⟨w1, hw, rw'⟩ := aw.get hx2
    obtain ⟨T, x', y', ev, nT, eH, y1, y2⟩ := hy
    have q1 := (y1 vs h1).symm.trans hv
    have q2 := (y2 ws h2).symm.trans hw
    cases q1; cases q2
    subst ev; subst eH
    exact newPair e2 nT ((Ra _).mono _ _ _ e1 rv) ((Rb _).mono _ _ _ e1 rw')
theorem src_zip {K : PySem.W.Frag} {α β : Type} {Ra : α → Pd} {Rb : β → Pd} {F : Hp} {a b : Addr} {vs ws : List V} {xs : List α} {ys : List β} (h : SqL K F a vs) (av : AllR Ra xs vs F) (h' : SqL K F b ws) (aw : AllR Rb ys ws F) : Src (Itz K a b) F (RPair K Ra Rb) (xs.zip ys) := fun F1 H1 e1 e2 => by
  have h1 : SqL K H1 a vs := seqL_mono e2 (seqL_mono e1 h)
  have h2 : SqL K H1 b ws := seqL_mono e2 (seqL_mono e1 h')
  refine ⟨fun i hi => ⟨vs, ws, h1, h2, ?_⟩, fun i hi => ?_, fun i z v H2 hx hy => ?_⟩
  · rw [List.length_zip] at hi
    rw [av.len, aw.len]; omega
  · rw [List.length_zip] at hi
    obtain ⟨v, hv, _⟩ := av.get (List.getElem?_eq_getElem (show i < xs.length by omega))
    obtain ⟨w, hw, _⟩ := aw.get (List.getElem?_eq_getElem (show i < ys.length by omega))
    exact ⟨vs, ws, v, w, h1, h2, hv, hw⟩
  · obtain ⟨hx1, hx2⟩ := zipGet hx
    obtain ⟨v1, hv, rv⟩ := av.get hx1
    obtain ⟨w1, hw, rw'⟩ := aw.get hx2
    obtain ⟨T, x', y', ev, nT, eH, y1, y2⟩ := hy
    have q1 := (y1 vs h1).symm.trans hv
    have q2 := (y2 ws h2).symm.trans hw
    cases q1; cases q2
    subst ev; subst eH
    exact newPair e2 nT ((Ra _).mono _ _ _ e1 rv) ((Rb _).mono _ _ _ e1 rw')
/-- (0, x), (1, y), .. -/
def enumL {α : Type} (xs : List α) : List (Int × α) := (rangeL 0 xs.length).zip xs
theorem src_enum {K : PySem.W.Frag} {α : Type} {Ra : α → Pd} {F : Hp} {a : Addr} {vs : List V} {xs : List α} (h : SqL K F a vs) (av : AllR Ra xs vs F) : Src (Ite K a) F (RPair K RInt Ra) (enumL xs) := fun F1 H1 e1 e2 => by
  have h1 : SqL K H1 a vs := seqL_mono e2 (seqL_mono e1 h)
  have hl : (enumL xs).length = xs.length := by unfold enumL; rw [List.length_zip, rangeL_len]; omega
  refine ⟨fun i hi => ⟨vs, h1, by rw [av.len, ← hl]; exact hi⟩, fun i hi => ?_, fun i z v H2 hx hy => ?_⟩
  · rw [hl] at hi
    obtain ⟨v, hv, _⟩ := av.get (List.getElem?_eq_getElem hi)
    exact ⟨vs, v, h1, hv⟩
  · obtain ⟨hx1, hx2⟩ := zipGet hx
    obtain ⟨v1, hv, rv⟩ := av.get hx2
    obtain ⟨T, x', ev, nT, eH, y1⟩ := hy
    have q1 := (y1 vs h1).symm.trans hv
    cases q1
    have hz : z.1 = (i : Int) := by
      unfold rangeL at hx1
      rw [List.getElem?_map] at hx1
      cases q : (List.range (((xs.length : Nat) : Int) - 0).toNat)[i]? with
      | none => rw [q] at hx1; cases hx1
      | some j =>
        rw [q] at hx1
        obtain ⟨g1, g2⟩ := List.getElem?_eq_some_iff.mp q
        rw [List.getElem_range] at g2
        have hq : (0 : Int) + (j : Nat) = z.1 := Option.some.inj hx1
        omega
    subst ev; subst eH
    refine newPair e2 nT ?_ ((Ra _).mono _ _ _ e1 rv)
    show V.int _ = V.int _
    rw [hz]

section
variable {X : Cx} {S S' : Type} {B : Bs} {Γ : S → List Sl} {K : PySem.W.Frag} {α β γ ι : Type} {R Ra : α → Pd} {Rb : β → Pd} {Rc : γ → Pd} {e a b c tg : Expr} {pos p : Pos} {x : Str}
variable {m ma : S → (α → S → Prop) → Prop} {mb : S → (β → S → Prop) → Prop}
theorem ti_list {m : S → (List α → S → Prop) → Prop} (h : PE X e (tE B Γ (RList K R) m)) (hK : X.K = K := by rfl) : PI X tg e (tI B Γ R m) := by
  subst hK
  exact pi_imp (pi_list h) fun σ H Rk ⟨s, F, K', A, hm, k⟩ => ⟨s, F, _, A, hm, fun xs s1 v F1 H1 h1 A1 e1 ⟨q, vs, ev, hq, av⟩ => ⟨q, ev, ⟨vs, seqL_mono A1.sub hq⟩, k xs s1 _ F1 H1 h1 A1 e1 (src_list hq av)⟩⟩
theorem ti_tup {m : S → (List α → S → Prop) → Prop} (h : PE X e (tE B Γ (RTup K R) m)) (hK : X.K = K := by rfl) : PI X tg e (tI B Γ R m) := by
  subst hK
  exact pi_imp (pi_tup h) fun σ H Rk ⟨s, F, K', A, hm, k⟩ => ⟨s, F, _, A, hm, fun xs s1 v F1 H1 h1 A1 e1 ⟨q, vs, ev, hq, av⟩ => ⟨q, ev, ⟨vs, seqT_mono A1.sub hq⟩, k xs s1 _ F1 H1 h1 A1 e1 (src_tup hq av)⟩⟩
theorem ti_range1 {ma : S → (Int → S → Prop) → Prop} (hm : X.mg "range" = none) (h : PE X a (tE B Γ RInt ma)) (hg : Gl X "range" := by rfl) (hs : starEach [a] X.env = [(false, eval a X.env)] := by rfl) :
    PI X tg (.Call (.Name "range" p) [a] [] pos) (tI B Γ RInt (fun s K => ma s fun n s1 => (-(2 ^ 62) ≤ n ∧ n < 2 ^ 62) ∧ K (rangeL 0 n) s1)) :=
  pi_imp (pi_range1 hg hm (pa_cons h pa_nil hs) hs) fun σ H Rk ⟨s, F, K', A, hm, k⟩ => ⟨s, F, _, A, hm, fun n s1 v F1 H1 ⟨h0, h1⟩ A1 e1 r1 => by
    have r1 : v = V.int n := r1
    subst r1
    exact ⟨n, rfl, h0.1, h0.2, k _ s1 _ F1 H1 h1 A1 e1 (src_range (by omega))⟩⟩
theorem ti_range2 {ma mb : S → (Int → S → Prop) → Prop} (hm : X.mg "range" = none) (h : PE X a (tE B Γ RInt ma)) (h' : PE X b (tE B Γ RInt mb)) (hg : Gl X "range" := by rfl) (hs : starEach [a, b] X.env = [(false, eval a X.env), (false, eval b X.env)] := by rfl) (hs2 : starEach [b] X.env = [(false, eval b X.env)] := by rfl) :
    PI X tg (.Call (.Name "range" p) [a, b] [] pos) (tI B Γ RInt (fun s K => ma s fun n s1 => mb s1 fun j s2 => (-(2 ^ 62) ≤ n ∧ n < 2 ^ 62 ∧ -(2 ^ 62) ≤ j ∧ j < 2 ^ 62) ∧ K (rangeL n j) s2)) :=
  pi_imp (pi_range2 hg hm (pa_cons h (pa_cons h' pa_nil (by rw [hs2]; rfl)) (by rw [hs, hs2])) hs hs2) fun σ H Rk ⟨s, F, K', A, hm, k⟩ => ⟨s, F, _, A, hm, fun n s1 v F1 H1 h1 A1 e1 r1 => ⟨s1, F1, _, A1, h1, fun j s2 w F2 H2 ⟨h0, h2⟩ A2 e2 r2 => by
    have r1 : v = V.int n := r1
    have r2 : w = V.int j := r2
    subst r1; subst r2
    exact ⟨n, j, rfl, h0, k _ s2 _ F2 H2 h2 A2 (e1.trans e2) (src_range rfl)⟩⟩⟩
theorem ti_enum {ma : S → (List α → S → Prop) → Prop} {elts : List Expr} {kk : Nat} {tpos : Pos} (hm : X.mg "enumerate" = none) (h : PE X a (tE B Γ (RList K R) ma)) (hK : X.K = K := by rfl) (hg : Gl X "enumerate" := by rfl) (hs : starEach [a] X.env = [(false, eval a X.env)] := by rfl) :
    PI X (.Tuple elts kk tpos) (.Call (.Name "enumerate" p) [a] [] pos) (tI B Γ (RPair K RInt R) (fun s K => ma s fun xs s1 => K (enumL xs) s1)) := by
  subst hK
  exact pi_imp (pi_enum hg hm (pa_cons h pa_nil hs) hs) fun σ H Rk ⟨s, F, K', A, hm, k⟩ => ⟨s, F, _, A, hm, fun xs s1 v F1 H1 h1 A1 e1 ⟨q, vs, ev, hq, av⟩ => ⟨q, vs, by rw [ev], seqL_mono A1.sub hq, k _ s1 _ F1 H1 h1 A1 e1 (src_enum hq av)⟩⟩
theorem ti_zip {ma : S → (List α → S → Prop) → Prop} {mb : S → (List β → S → Prop) → Prop} {elts : List Expr} {kk : Nat} {tpos : Pos} (hm : X.mg "zip" = none) (h : PE X a (tE B Γ (RList K Ra) ma)) (h' : PE X b (tE B Γ (RList K Rb) mb)) (hK : X.K = K := by rfl) (hg : Gl X "zip" := by rfl)
    (hs : starEach [a, b] X.env = (false, eval a X.env) :: starEach [b] X.env := by rfl) (hs2 : starEach [b] X.env = (false, eval b X.env) :: starEach [] X.env := by rfl) (hpl : (backTo pos (starEach [b] X.env)).any (·.1) = false := by rfl) :
    PI X (.Tuple elts kk tpos) (.Call (.Name "zip" p) [a, b] [] pos) (tI B Γ (RPair K Ra Rb) (fun s K => ma s fun xs s1 => mb s1 fun ys s2 => K (xs.zip ys) s2)) := by
  subst hK
  exact pi_imp (pi_zip hg hm (pa_cons h (pa_cons h' pa_nil hs2) hs) hs hpl) fun σ H Rk ⟨s, F, K', A, hm, k⟩ => ⟨s, F, _, A, hm, fun xs s1 v F1 H1 h1 A1 e1 ⟨q, vs, ev, hq, av⟩ => ⟨s1, F1, _, A1, h1, fun ys s2 w F2 H2 h2 A2 e2 ⟨q2, ws, ew, hq2, aw⟩ =>
    ⟨q, q2, vs, ws, by rw [ev, ew], seqL_mono A2.sub (seqL_mono e2 hq), seqL_mono A2.sub hq2, k _ s2 _ F2 H2 h2 A2 (e1.trans e2) (src_zip (seqL_mono e2 hq) (av.mono e2) hq2 aw)⟩⟩⟩
theorem ti_zipT {ma : S → (List α → S → Prop) → Prop} {mb : S → (List β → S → Prop) → Prop} {elts : List Expr} {kk : Nat} {tpos : Pos} (hm : X.mg "zip" = none) (h : PE X a (tE B Γ (RTup K Ra) ma)) (h' : PE X b (tE B Γ (RTup K Rb) mb)) (hK : X.K = K := by rfl) (hg : Gl X "zip" := by rfl)
    (hs : starEach [a, b] X.env = (false, eval a X.env) :: starEach [b] X.env := by rfl) (hs2 : starEach [b] X.env = (false, eval b X.env) :: starEach [] X.env := by rfl) (hpl : (backTo pos (starEach [b] X.env)).any (·.1) = false := by rfl) :
    PI X (.Tuple elts kk tpos) (.Call (.Name "zip" p) [a, b] [] pos) (tI B Γ (RPair K Ra Rb) (fun s K => ma s fun xs s1 => mb s1 fun ys s2 => K (xs.zip ys) s2)) := by
  subst hK
  exact pi_imp (RZ.pi_zipA hg hm (pa_cons h (pa_cons h' pa_nil hs2) hs) hs hpl) fun σ H Rk ⟨s, F, K', A, hm, k⟩ => ⟨s, F, _, A, hm, fun xs s1 v F1 H1 h1 A1 e1 ⟨q, vs, ev, hq, av⟩ => ⟨s1, F1, _, A1, h1, fun ys s2 w F2 H2 h2 A2 e2 ⟨q2, ws, ew, hq2, aw⟩ =>
    ⟨q, q2, vs, ws, by rw [ev, ew], .inr ⟨seqT_mono A2.sub (seqT_mono e2 hq), seqT_mono A2.sub hq2, k _ s2 _ F2 H2 h2 A2 (e1.trans e2) (src_zipT (seqT_mono e2 hq) (av.mono e2) hq2 aw)⟩⟩⟩⟩

/-! ### targets -/
structure Tg (g : TG) (R : α → Pd) (js : List Nat) (up : List Sl → α → List Sl) : Prop where
  run : ∀ {B : Bs} {Γ : List Sl} {σ : L2.St} {F H : Hp} {x : α} {v : V} {Q : L2.St → Hp → Prop}, At B Γ σ F H → (R x).p v F → (∀ σ', At B (up Γ x) σ' F H → (∀ vs, (∀ j ∈ js, j ∈ vs) → wipe σ' vs = wipe σ vs) → Q σ' H) → g v σ H Q
theorem wipe_set {σ : L2.St} {j : Nat} {v : Option V} : ∀ {vs : List Nat}, j ∈ vs → wipe (σ.set j v) vs = wipe σ vs
  | w :: vs, h => by
    by_cases hj : j ∈ vs
    · show (wipe (σ.set j v) vs).set w none = (wipe σ vs).set w none
      rw [wipe_set hj]
    · have e : j = w := by
        rcases List.mem_cons.mp h with z | z
        · exact z
        · exact absurd z hj
      subst e
      have go : ∀ (vs : List Nat), j ∉ vs → wipe (σ.set j v) vs = (wipe σ vs).set j v := by
        intro vs
        induction vs with
        | nil => intro _; rfl
        | cons u vs ih =>
          intro hn
          have h1 : j ≠ u := fun z => hn (z ▸ List.mem_cons_self)
          show (wipe (σ.set j v) vs).set u none = ((wipe σ vs).set u none).set j v
          rw [ih fun z => hn (List.mem_cons_of_mem _ z), List.set_comm _ _ h1]
      show (wipe (σ.set j v) vs).set j none = (wipe σ vs).set j none
      rw [go vs hj, List.set_set]
theorem wipe_wipe {σ : L2.St} {ws : List Nat} : ∀ {vs : List Nat}, (∀ j ∈ vs, j ∈ ws) → wipe (wipe σ vs) ws = wipe σ ws
  | [], _ => rfl
  | v :: vs, h => by
    show wipe ((wipe σ vs).set v none) ws = wipe σ ws
    rw [wipe_set (h v List.mem_cons_self), wipe_wipe fun j hj => h j (List.mem_cons_of_mem _ hj)]
theorem tg_name (i : Nat) : Tg (gName i) R [i] (fun Γ x => Γ.set i (.im (R x))) := ⟨fun A hr k => k _ (A.setIm hr) fun vs hv => wipe_set (hv i (by simp))⟩
theorem tg_pair (i j : Nat) : Tg (gTup K 2 (gCons (gName i) (gCons (gName j) gNil))) (RPair K Ra Rb) [i, j] (fun Γ x => (Γ.set i (.im (Ra x.1))).set j (.im (Rb x.2))) := ⟨fun {B Γ σ F H x v Q} A hr k => by
  obtain ⟨q, v1, v2, rfl, h2, h3, h4⟩ := hr
  refine ⟨q, _, rfl, seqT_mono A.sub h2, rfl, v1, [v2], rfl, v2, [], rfl, rfl, ?_⟩
  exact k _ ((A.setIm h3).setIm h4) fun vs hv => by rw [wipe_set (hv j (by simp)), wipe_set (hv i (by simp))]⟩

theorem of_iteF {A B : Prop} (h : if false = true then A else B) : B := by
  rw [if_neg Bool.false_ne_true] at h
  exact h
theorem of_iteT {A B : Prop} (h : if true = true then A else B) : A := by
  rw [if_pos rfl] at h
  exact h
/-! ### comprehensions (their parts change nothing) -/
theorem pe_ex {ι : Type} {t : ι → TE} (h : ∀ i, PE X e (t i)) : PE X e (fun σ H Q => ∃ i, t i σ H Q) := ⟨fun pins s σ H Q I ⟨i, q⟩ => (h i).run pins s σ H Q I q⟩
theorem pts_ex {ι : Type} {es : List Expr} {t : ι → TT} (h : ∀ i, PTs X es (t i)) : PTs X es (fun σ H Q => ∃ i, t i σ H Q) := ⟨fun pins s σ H Q I ⟨i, q⟩ => (h i).run pins s σ H Q I q⟩
theorem pss_ex {ι : Type} {es : List Stmt} {t : ι → TS} (h : ∀ i, PSs X es (t i)) : PSs X es (fun D σ H => ∃ i, t i D σ H) := ⟨fun pins s σ H D I ⟨i, q⟩ => (h i).run pins s σ H D I q⟩
/-- slots for a block: its own names forgotten, nothing owned -/
inductive Pur : List Sl → List Sl → Prop
  | nil : Pur [] []
  | im {P Γ Γ'} : Pur Γ Γ' → Pur (.im P :: Γ) (.im P :: Γ')
  | any {s Γ Γ'} : Pur Γ Γ' → Pur (s :: Γ) (.any :: Γ')
def pureOf : List Sl → List Nat → List Sl
  | [], _ => []
  | s :: Γ, vs => (if 0 ∈ vs then .any else match s with | .im P => .im P | _ => .any) :: pureOf Γ ((vs.filter (· ≠ 0)).map (· - 1))
theorem fits_pure {F H : Hp} {F' H' : Hp} : ∀ {Γ Γ' : List Sl} {σ σ' : L2.St} (vs : List Nat), Pur Γ Γ' → Fits B F H Γ σ → (∀ i, i ∉ vs → σ'[i]? = σ[i]?) → σ'.length = σ.length → (∀ i ∈ vs, Γ'[i]? = some .any ∨ Γ'[i]? = none) →
    Fits ⟨F, H, fun _ => False, []⟩ F H Γ' σ' ∧ owA Γ' σ' = []
  | [], [], [], [], _, .nil, _, _, _, _ => ⟨trivial, rfl⟩
  | [], [], [], _ :: _, _, .nil, _, _, hl, _ => by simp at hl
  | [], [], _ :: _, _, _, .nil, h, _, _, _ => h.elim
  | _ :: _, _ :: _, [], _, _, _, h, _, _, _ => h.elim
  | _ :: _, _ :: _, _ :: _, [], _, _, _, _, hl, _ => by simp at hl
  | s :: Γ, s' :: Γ', x :: σ, x' :: σ', vs, pu, h, hs, hl, hv => by
    have step := fun (pu' : Pur Γ Γ') => fits_pure (F' := F') (H' := H') (Γ := Γ) (Γ' := Γ') (σ := σ) (σ' := σ') ((vs.filter (· ≠ 0)).map (· - 1)) pu' h.2 (fun i hi => by
        have := hs (i + 1) (fun z => hi (List.mem_map.mpr ⟨i + 1, List.mem_filter.mpr ⟨z, by simp⟩, by simp⟩))
        simpa using this) (by simpa using hl) (fun i hi => by
        obtain ⟨w, hw, e⟩ := List.mem_map.mp hi
        obtain ⟨hw1, hw2⟩ := List.mem_filter.mp hw
        have hw3 : w ≠ 0 := by simpa using hw2
        have hwi : w = i + 1 := by omega
        subst hwi
        have := hv (i + 1) hw1
        simpa using this)
    cases pu with
    | im pu =>
      obtain ⟨r1, r2⟩ := step pu
      rename_i P
      have n0 : 0 ∉ vs := fun z => by
        have := hv 0 z
        simp at this
      have ex : x' = x := by simpa using hs 0 n0
      subst ex
      obtain ⟨v, h1, h2⟩ := h.1
      exact ⟨⟨⟨v, h1, h2⟩, r1⟩, r2⟩
    | any pu =>
      obtain ⟨r1, r2⟩ := step pu
      exact ⟨⟨trivial, r1⟩, r2⟩
theorem wipe_out {σ : L2.St} : ∀ {vs : List Nat} {i : Nat}, i ∉ vs → (wipe σ vs)[i]? = σ[i]?
  | [], _, _ => rfl
  | v :: vs, i, h => by
    show ((wipe σ vs).set v none)[i]? = σ[i]?
    rw [List.getElem?_set_ne (fun z => h (by subst z; exact List.mem_cons_self)), wipe_out fun z => h (List.mem_cons_of_mem _ z)]
/-- what stands beside: an object that nobody here owns or knows is changed -/
theorem At.poke {Γ : List Sl} {σ : L2.St} {F H : Hp} {D : Addr} {o u : HO} (A : At B Γ σ F H) (hD : H D = some u) (fD : F D = none) (bD : B.H D = none) (n : D ∉ owA Γ σ) : At B Γ σ F (upd H D o) := by
  refine ⟨fun a w g => ?_, A.ext, fun a w g nb => ?_, A.new, fits_upd A.fit n, A.dis, fun a hb => ?_, A.pin⟩
  · have na : a ≠ D := fun z => by rw [z, fD] at g; cases g
    rw [upd_ne na]; exact A.sub _ _ g
  · have na : a ≠ D := fun z => by rw [z, bD] at g; cases g
    rw [upd_ne na]; exact A.kept _ _ g nb
  · obtain ⟨h1, ⟨w, h2⟩, h3⟩ := A.bob a hb
    have na : a ≠ D := fun z => by obtain ⟨o3, h3⟩ := h3; rw [z, bD] at h3; cases h3
    exact ⟨h1, ⟨w, (upd_ne na).trans h2⟩, h3⟩
theorem At.beside {Γ : List Sl} {σ : L2.St} {F H : Hp} {D : Addr} (A : At B Γ σ F H) (n : H D = none) : F D = none ∧ B.H D = none ∧ D ∉ owA Γ σ := ⟨(A.fresh n).1, (A.fresh n).2, A.notOwn n⟩
theorem lc_read {g : TG} {js vs : List Nat} {up : List Sl → α → List Sl} (tgt : Tg g R js up) {Γp : S → List Sl} {mi : S → (List α → S → Prop) → Prop} {mt : S → α → (Bool → Prop) → Prop} {me : S → α → (β → Prop) → Prop}
    (hp : ∀ s, Pur (Γ s) (Γp s)) (hj : ∀ j ∈ js, j ∈ vs) (hv : ∀ s, ∀ i ∈ vs, (Γp s)[i]? = some .any ∨ (Γp s)[i]? = none) {σ : L2.St} {H : Hp} {Q : VK}
    (q : tN B Γ Rb (fun s K => mi s fun xs s1 => xs.length ≤ 1000000 ∧ mMapIf xs (mt s1) (me s1) fun ys => K ys s1) σ H Q) :
    tLc (tI B Γ R mi) g (fun σ H Q => ∃ i : S × α × Bs, tT i.2.2 (fun _ : Unit => up (Γp i.1) i.2.1) (fun _ K => mt i.1 i.2.1 fun b => K b ()) σ H Q)
      (fun σ H Q => ∃ i : S × α × Bs, tE i.2.2 (fun _ : Unit => up (Γp i.1) i.2.1) Rb (fun _ K => me i.1 i.2.1 fun y => K y ()) σ H Q) vs σ H Q := by
  obtain ⟨s, F, K', A, hm, k⟩ := q
  refine ⟨s, F, _, A, hm, fun xs s1 J F1 H1 ⟨hz, h1⟩ A1 e1 src => ?_⟩
  intro D hD
  have bD := A1.beside hD
  refine ⟨fun i mm H' => ∃ Fi acc ys, mm = xs.length - i ∧ i ≤ xs.length ∧ Same F1 Fi ∧ At B (Γ s1) σ Fi H' ∧ H' D = some (.lst acc) ∧ Fi D = none ∧ AllR Rb ys acc Fi ∧ ys.length ≤ i ∧ mMapIf (xs.drop i) (mt s1) (me s1) fun zs => K' (ys ++ zs) s1, ?_, ?_⟩
  · refine ⟨xs.length, F1, [], [], by simp, Nat.zero_le _, Same.refl _, A1.layH hD, upd_same, bD.1, trivial, Nat.le_refl _, ?_⟩
    simpa using h1
  · rintro i mm H' ⟨Fi, acc, ys, rfl, hi, eF, Ai, hDi, fDi, av, hyl, hk⟩
    obtain ⟨s1', s2', s3'⟩ := src Fi H' eF Ai.sub
    by_cases hlt : i < xs.length
    · refine .inr ⟨s2' i hlt, fun H'' => ∃ mm', mm' < xs.length - i ∧ ∃ Fi acc ys, mm' = xs.length - (i + 1) ∧ i + 1 ≤ xs.length ∧ Same F1 Fi ∧ At B (Γ s1) σ Fi H'' ∧ H'' D = some (.lst acc) ∧ Fi D = none ∧ AllR Rb ys acc Fi ∧ ys.length ≤ i + 1 ∧ mMapIf (xs.drop (i + 1)) (mt s1) (me s1) fun zs => K' (ys ++ zs) s1, fun H'' z => z, fun v H2 hy => ?_⟩
      obtain ⟨F2, f1, f2, f3, f4, f5⟩ := s3' i xs[i] v H2 (List.getElem?_eq_getElem hlt) hy
      have A2 := Ai.grow f1 f2 f3 f4
      have hD2 := f2 _ _ hDi
      have fD2 : F2 D = none := f4.no fDi hDi
      rw [List.drop_eq_getElem_cons hlt] at hk
      -- the block's own base
      obtain ⟨pf, po⟩ := fits_pure (F' := F2) (H' := H2) (σ' := wipe σ vs) vs (hp s1) A2.fit (fun i hi => wipe_out hi) (wipe_length σ vs) (hv s1)
      have A3 : At ⟨F2, H2, fun _ => False, []⟩ (Γp s1) (wipe σ vs) F2 H2 := ⟨A2.sub, Same.refl _, fun a o e _ => e, fun a o e => .inl e, pf, by rw [po]; exact List.Pairwise.nil, fun a hb => hb.elim, fun _ z => nomatch z⟩
      refine tgt.run A3 f5 fun σ' A4 hw => ?_
      refine ⟨by rw [hw vs hj, wipe_wipe fun _ z => z], ⟨s1, xs[i], ⟨F2, H2, fun _ => False, []⟩⟩, (), F2, fun bb (_ : Unit) => if bb = true then me s1 xs[i] (fun y => mMapIf (xs.drop (i + 1)) (mt s1) (me s1) fun zs => K' (ys ++ (y :: zs)) s1) else mMapIf (xs.drop (i + 1)) (mt s1) (me s1) fun zs => K' (ys ++ zs) s1, A4, hk, fun bb _ F5 H5 h5 A5 e5 => ?_⟩
      have back : ∀ {F6 H6 : Hp}, At ⟨F2, H2, fun _ => False, []⟩ (up (Γp s1) xs[i]) σ' F6 H6 → At B (Γ s1) σ F6 H6 ∧ H6 D = some (.lst acc) ∧ F6 D = none := fun {F6 H6} A6 => by
        have sH : Same H2 H6 := fun a o e => A6.kept a o e id
        have nw : Nw F2 H2 F6 := fun a o e => A6.new a o e
        exact ⟨A2.grow A6.ext sH A6.sub nw, sH _ _ hD2, nw.no fD2 hD2⟩
      cases bb with
      | false =>
        refine iteF ?_
        have h5 := of_iteF h5
        obtain ⟨g1, g2, g3⟩ := back A5
        exact ⟨xs.length - (i + 1), by omega, F5, acc, ys, rfl, hlt, (eF.trans f1).trans e5, g1, g2, g3, (av.mono f1).mono e5, by omega, h5⟩
      | true =>
        refine iteT ?_
        have h5 := of_iteT h5
        refine ⟨⟨s1, xs[i], ⟨F2, H2, fun _ => False, []⟩⟩, (), F5, fun y (_ : Unit) => mMapIf (xs.drop (i + 1)) (mt s1) (me s1) fun zs => K' (ys ++ (y :: zs)) s1, A5, h5, fun y _ w F6 H6 h6 A6 e6 r6 => ?_⟩
        obtain ⟨g1, g2, g3⟩ := back A6
        refine ⟨acc, g2, ?_, xs.length - (i + 1), by omega, F6, acc ++ [w], ys ++ [y], rfl, hlt, ((eF.trans f1).trans e5).trans e6, ?_, upd_same, g3, ?_, by rw [List.length_append, List.length_singleton]; omega, ?_⟩
        · rw [av.len]
          exact Nat.lt_of_lt_of_le (Nat.lt_of_le_of_lt hyl hlt) (smallLen hz)
        · exact g1.poke g2 g3 bD.2.1 bD.2.2
        · exact (((av.mono f1).mono e5).mono e6).append ⟨r6, trivial⟩
        · simpa using h6
    · have e : i = xs.length := by omega
      subst e
      refine .inl ⟨s1' _ (Nat.le_refl _), ?_⟩
      rw [List.drop_length] at hk
      have hk : K' (ys ++ []) s1 := hk
      rw [List.append_nil] at hk
      exact k ys s1 D acc Fi H' hk Ai (e1.trans eF) hDi fDi bD.2.1 bD.2.2 av
end
end TL
namespace TL
open PySem L2

/-! ### comprehensions as expressions -/
def pureFrom (vs : List Nat) : Nat → List Sl → List Sl
  | _, [] => []
  | i, s :: Γ => (bif vs.any (Nat.beq i) then .any else match s with | .im P => .im P | _ => .any) :: pureFrom vs (i + 1) Γ
theorem pur_pure (vs : List Nat) : ∀ (i : Nat) (Γ : List Sl), Pur Γ (pureFrom vs i Γ)
  | _, [] => .nil
  | i, s :: Γ => by
    unfold pureFrom
    cases h : vs.any (Nat.beq i) with
    | true => exact .any (pur_pure vs (i + 1) Γ)
    | false =>
      cases s with
      | im P => exact .im (pur_pure vs (i + 1) Γ)
      | any => exact .any (pur_pure vs (i + 1) Γ)
      | ow O => exact .any (pur_pure vs (i + 1) Γ)
      | bo j O => exact .any (pur_pure vs (i + 1) Γ)
theorem pure_any (vs : List Nat) : ∀ (k : Nat) (Γ : List Sl) (j : Nat), (k + j) ∈ vs → (pureFrom vs k Γ)[j]? = some .any ∨ (pureFrom vs k Γ)[j]? = none
  | _, [], j, _ => .inr (by simp [pureFrom])
  | k, s :: Γ, 0, h => by
    left
    unfold pureFrom
    have : vs.any (Nat.beq k) = true := List.any_eq_true.mpr ⟨k, by simpa using h, by simp⟩
    rw [this]
    rfl
  | k, s :: Γ, j + 1, h => by
    unfold pureFrom
    have := pure_any vs (k + 1) Γ j (by rw [Nat.add_assoc, Nat.add_comm 1 j]; exact h)
    simpa using this
section
variable {X : Cx} {S S' : Type} {B : Bs} {Γ : S → List Sl} {K : PySem.W.Frag} {α β γ ι : Type} {R Ra : α → Pd} {Rb : β → Pd} {Rc : γ → Pd} {e a b c tg it elt cond : Expr} {pos p : Pos} {x : Str} {scope : Scope} {own : List (Str × Nat)}
variable {m ma : S → (α → S → Prop) → Prop} {mb : S → (β → S → Prop) → Prop} {g : TG} {js : List Nat} {up : List Sl → α → List Sl}
theorem pts_yes {Y : Cx} {Γ' : Unit → List Sl} {B' : Bs} : PTs Y [] (tT B' Γ' (fun _ K => K true ())) := ⟨fun pins s σ H Q I ⟨u, F, K', A, hm, k⟩ => pts_nil.run pins s σ H Q I (k true () F H hm A (Same.refl F))⟩
theorem tn_compIf {mi : S → (List α → S → Prop) → Prop} {mt : S → α → Unit → (Bool → Unit → Prop) → Prop} {me : S → α → Unit → (β → Unit → Prop) → Prop} (nd : X.N.Nodup) (hi : PI X tg it (tI B Γ R mi)) (ok : BlkOk X.N X.env.scope scope own)
    (hg : ∀ (s : Shared) (H : Hp) (C : Addr) (cl : List (Str × Addr)) (fp : List Addr), PG (X.blk s H scope (compEnvC scope cl C X.env) fp) tg g) (tgt : Tg g R js up)
    (ht : ∀ (s1 : S) (x : α) (B' : Bs) (s : Shared) (H : Hp) (C : Addr) (cl : List (Str × Addr)) (fp : List Addr), PT (X.blk s H scope (compEnvC scope cl C X.env) fp) cond (tT B' (fun _ : Unit => up (pureFrom (own.map (·.2)) 0 (Γ s1)) x) (mt s1 x)))
    (he : ∀ (s1 : S) (x : α) (B' : Bs) (s : Shared) (H : Hp) (C : Addr) (cl : List (Str × Addr)) (fp : List Addr), PE (X.blk s H scope (compEnvC scope cl C X.env) fp) elt (tE B' (fun _ : Unit => up (pureFrom (own.map (·.2)) 0 (Γ s1)) x) Rb (me s1 x)))
    (hj : ∀ j ∈ js, j ∈ own.map (·.2) := by decide) (hc : X.calm = true := by rfl) (hs : ∀ x, foldedSetIterable it X.env x = pure x := by intro _; rfl) :
    PE X (.ListComp elt [⟨tg, it, [cond], 0⟩] scope pos) (tN B Γ Rb (fun s K => mi s fun xs s1 => xs.length ≤ 1000000 ∧ mMapIf xs (fun x K => mt s1 x () fun b _ => K b) (fun x K => me s1 x () fun y _ => K y) fun ys => K ys s1)) :=
  pe_imp (pe_lc hc nd hi ok hg (fun s H C cl fp => pts_one (pt_imp (t := fun σ H Q => ∃ i : S × α × Bs, tT i.2.2 (fun _ : Unit => up (pureFrom (own.map (·.2)) 0 (Γ i.1)) i.2.1) (mt i.1 i.2.1) σ H Q)
      ⟨fun pins s' σ H' Q I ⟨i, q⟩ => (ht i.1 i.2.1 i.2.2 s H C cl fp).run pins s' σ H' Q I q⟩ fun _ _ _ q => q))
    (fun s H C cl fp => pe_ex fun i : S × α × Bs => he i.1 i.2.1 i.2.2 s H C cl fp) hs)
    fun σ H Q q => lc_read (mt := fun s1 x K => mt s1 x () fun b _ => K b) (me := fun s1 x K => me s1 x () fun y _ => K y) tgt (fun s => pur_pure _ 0 _) hj (fun s i hi => pure_any _ 0 _ i (by simpa using hi)) q
theorem tn_map {mi : S → (List α → S → Prop) → Prop} {me : S → α → Unit → (β → Unit → Prop) → Prop} (nd : X.N.Nodup) (hi : PI X tg it (tI B Γ R mi)) (ok : BlkOk X.N X.env.scope scope own)
    (hg : ∀ (s : Shared) (H : Hp) (C : Addr) (cl : List (Str × Addr)) (fp : List Addr), PG (X.blk s H scope (compEnvC scope cl C X.env) fp) tg g) (tgt : Tg g R js up)
    (he : ∀ (s1 : S) (x : α) (B' : Bs) (s : Shared) (H : Hp) (C : Addr) (cl : List (Str × Addr)) (fp : List Addr), PE (X.blk s H scope (compEnvC scope cl C X.env) fp) elt (tE B' (fun _ : Unit => up (pureFrom (own.map (·.2)) 0 (Γ s1)) x) Rb (me s1 x)))
    (hj : ∀ j ∈ js, j ∈ own.map (·.2) := by decide) (hc : X.calm = true := by rfl) (hs : ∀ x, foldedSetIterable it X.env x = pure x := by intro _; rfl) :
    PE X (.ListComp elt [⟨tg, it, [], 0⟩] scope pos) (tN B Γ Rb (fun s K => mi s fun xs s1 => xs.length ≤ 1000000 ∧ mMap xs (fun x K => me s1 x () fun y _ => K y) fun ys => K ys s1)) :=
  pe_imp (pe_lc hc nd hi ok hg (fun s H C cl fp => pts_ex fun i : S × α × Bs => pts_yes (B' := i.2.2) (Γ' := fun _ : Unit => up (pureFrom (own.map (·.2)) 0 (Γ i.1)) i.2.1))
    (fun s H C cl fp => pe_ex fun i : S × α × Bs => he i.1 i.2.1 i.2.2 s H C cl fp) hs)
    fun σ H Q q => lc_read (mt := fun _ _ K => K true) (me := fun s1 x K => me s1 x () fun y _ => K y) tgt (fun s => pur_pure _ 0 _) hj (fun s i hi => pure_any _ 0 _ i (by simpa using hi)) (by
      obtain ⟨s, F, K', A, hm, k⟩ := q
      refine ⟨s, F, K', A, ?_, k⟩
      have : (fun (xs : List α) (s1 : S) => xs.length ≤ 1000000 ∧ mMapIf xs (fun _ K => K true) (fun x K => me s1 x () fun y _ => K y) fun ys => K' ys s1) = (fun xs s1 => xs.length ≤ 1000000 ∧ mMap xs (fun x K => me s1 x () fun y _ => K y) fun ys => K' ys s1) := by
        funext xs s1
        rw [← mMapIf_true]
      show mi s (fun (xs : List α) (s1 : S) => xs.length ≤ 1000000 ∧ mMapIf xs (fun _ K => K true) (fun x K => me s1 x () fun y _ => K y) fun ys => K' ys s1)
      rw [this]
      exact hm)
end

/-- a list in the heap, read as any list -/
theorem te_l {X : Cx} {S : Type} {B : Bs} {Γ : S → List Sl} {K : PySem.W.Frag} {α : Type} {R : α → Pd} {e : Expr} {m : S → (List α → S → Prop) → Prop} (h : PE X e (tE B Γ (RLst R) m)) : PE X e (tE B Γ (RList K R) m) :=
  pe_imp h fun σ H Q ⟨s, F, K', A, hm, k⟩ => ⟨s, F, K', A, hm, fun x s' v F' H' kx A' e' ⟨q, vs, h1, h2, h3⟩ => k x s' v F' H' kx A' e' ⟨q, vs, h1, SqL.of h2, h3⟩⟩
/-! ### defs: what they promise -/
/-- arguments that are not changed -/
def spP {ι α : Type} (As : ι → List Pd) (R : α → Pd) (m : ι → (α → Prop) → Prop) : Sp := fun vs H Q _ => ∃ y F K, AllP (As y) vs F ∧ Same F H ∧ m y K ∧
  ∀ r v F' H', K r → (R r).p v F' → Same F F' → Same H H' → Same F' H' → Nw F H F' → Q v H'
/-- the first argument is lent, and changed -/
def spB {ι α T : Type} (O : T → Od) (As : ι → List Pd) (R : α → Pd) (m : ι → T → (α → T → Prop) → Prop) : Sp := fun vs H Q _ => ∃ y t F K j ws o, vs = .ref j :: ws ∧ AllP (As y) ws F ∧ Same F H ∧ F j = none ∧ H j = some o ∧ (O t).p o F ∧ m y t K ∧
  ∀ r t' v F' H' o', K r t' → (R r).p v F' → Same F F' → (∀ a u, a ≠ j → H a = some u → H' a = some u) → Same F' H' → Nw F H F' → F' j = none → H' j = some o' → (O t').p o' F' → Q v H'
/-- an __init__: the new instance is made -/
def spI {ι α : Type} (C : Addr) (As : ι → List Pd) (R : α → Pd) (m : ι → (α → Prop) → Prop) : Sp := fun vs H Q _ => ∃ y F K a dx ws, vs = .ref a :: ws ∧ AllP (As y) ws F ∧ Same F H ∧ F a = none ∧ F dx = none ∧ dx ≠ a ∧ H a = some (.ins C dx []) ∧ H dx = some (.own a) ∧ m y K ∧
  ∀ r F' H', K r → (R r).p (.ref a) F' → Same F F' → (∀ b u, b ≠ a → H b = some u → H' b = some u) → Same F' H' → (∀ b u, F' b = some u → F b = some u ∨ b = a ∨ H b = none) → Q .non H'

section
variable {X : Cx} {S S' : Type} {B : Bs} {Γ : S → List Sl} {K : PySem.W.Frag} {α β γ ι T : Type} {R Ra : α → Pd} {Rb : β → Pd} {Rc : γ → Pd} {e a b c o : Expr} {es : List Expr} {pos p apos : Pos} {x mn : Str} {k : Nat} {f C : Addr} {fd : FuncData} {ps : List Str}
variable {m : S → (α → S → Prop) → Prop} {mb : S → (β → S → Prop) → Prop} {As : ι → List Pd} {mr : S → (ι → S → Prop) → Prop} {O : T → Od}
theorem call_p {mf : ι → (α → Prop) → Prop} {σ : L2.St} {H : Hp} {Q : VK} {E : XK} (q : tE B Γ R (fun s K => mr s fun y s1 => mf y fun r => K r s1) σ H Q) : tCall (spP As R mf) [] E (tA B Γ As mr) σ H Q := by
  obtain ⟨s, F, K', A, hm, k⟩ := q
  refine ⟨s, F, _, A, hm, fun y s1 vs F1 H1 h1 A1 e1 r1 => ?_⟩
  show spP As R mf (vs ++ []) H1 Q E
  rw [List.append_nil]
  exact ⟨y, F1, _, r1, A1.sub, h1, fun r v F' H' kr rv eF eH sb nw => k r s1 v F' H' kr (A1.grow eF eH sb nw) (e1.trans eF) rv⟩
theorem te_call {mf : ι → (α → Prop) → Prop} (F : FnOk X.prog X.w X.K X.mg X.base CX0 k f fd ps (spP As R mf)) (hr : Room k X.A) (hm : X.mg x = some (.ref f)) (hk : PySem.W.keepIn X.K (.ref f) = true) (hb : Binds X.K fd ps []) (ha : PA X (e :: es) (tA B Γ As mr)) (hg : Gl X x := by rfl) (hdb : (x == ("__debug__" : Str)) = false := by decide)
    (hs : starEach (e :: es) X.env = (false, eval e X.env) :: starEach es X.env := by rfl) (hpl : (backTo pos (starEach es X.env)).any (·.1) = false := by rfl) :
    PE X (.Call (.Name x p) (e :: es) [] pos) (tE B Γ R (fun s K => mr s fun y s1 => mf y fun r => K r s1)) := pe_imp (pe_call F hr hg hm hk hb .nil (pass0 (X := X)) ha hdb hs hpl) fun _ _ _ q => call_p q
/-- a call with the lent thing of slot i (lent to the caller) -/
theorem call_b {mf : ι → T → (α → T → Prop) → Prop} {i : Nat} {j : Addr} {get : S → T} {put : S → T → S} (hG : ∀ s, (Γ s)[i]? = some (.bo j (O (get s)))) (hP : ∀ s t, Γ (put s t) = (Γ s).set i (.bo j (O t))) {σ : L2.St} {H : Hp} {Q : VK} {E : XK}
    (q : tE B Γ R (fun s K => mr s fun y s1 => mf y (get s1) fun r t => K r (put s1 t)) σ H Q) : tCall (spB O As R mf) [] E (tCons (tVar i) (tA B Γ As mr)) σ H Q := by
  obtain ⟨s, F, K', A, hm, k⟩ := q
  obtain ⟨ob, h1, h2, h3, h4, h5⟩ := A.bo (hG s)
  refine ⟨_, h1, s, F, _, A, hm, fun y s1 vs F1 H1 q1 A1 e1 r1 => ?_⟩
  show spB O As R mf (.ref j :: vs ++ []) H1 Q E
  rw [List.append_nil]
  obtain ⟨ob1, g1, g2, g3, g4, g5⟩ := A1.bo (hG s1)
  refine ⟨y, get s1, F1, _, j, vs, ob1, rfl, r1, A1.sub, g2, g3, g4, q1, fun r t' v F' H' o' kr rv eF eH sb nw fj hj ho => ?_⟩
  refine k r (put s1 t') v F' H' kr ?_ (e1.trans eF) rv
  rw [hP]
  -- first all but j grows, then j is written
  have sG : Same H1 (fun b => if b = j then some ob1 else H' b) := fun b u g => by
    by_cases hb : b = j
    · subst hb; rw [g3] at g; cases g; exact if_pos rfl
    · show (if b = j then _ else _) = _
      rw [if_neg hb]; exact eH b u hb g
  have A2 := A1.grow (H' := fun b => if b = j then some ob1 else H' b) eF sG (fun b u g => by
    by_cases hb : b = j
    · subst hb; rw [fj] at g; cases g
    · show (if b = j then _ else _) = _
      rw [if_neg hb]; exact sb b u g) nw
  have A3 := A2.writeB (O' := O t') (o := o') (hG s1) ho
  have : upd (fun b => if b = j then some ob1 else H' b) j o' = H' := by
    funext b
    unfold upd
    by_cases hb : b = j
    · subst hb; rw [if_pos rfl, hj]
    · rw [if_neg hb]
      show (if b = j then _ else _) = _
      rw [if_neg hb]
  rw [this] at A3
  exact A3
theorem te_callB {mf : ι → T → (α → T → Prop) → Prop} {xn : Str} {pn : Pos} (i : Nat) (get : S → T) (put : S → T → S) {j : Addr} (F : FnOk X.prog X.w X.K X.mg X.base CX0 k f fd ps (spB O As R mf)) (hr : Room k X.A) (hm : X.mg x = some (.ref f)) (hk : PySem.W.keepIn X.K (.ref f) = true) (hb : Binds X.K fd ps []) (ha : PA X es (tA B Γ As mr))
    (hG : ∀ s, (Γ s)[i]? = some (.bo j (O (get s))) := by intro _; rfl) (hP : ∀ s t, Γ (put s t) = (Γ s).set i (.bo j (O t)) := by intro _ _; rfl) (hN : X.N[i]? = some xn := by rfl) (hv : Vis X.env.scope xn := by first | exact Or.inl rfl | exact Or.inr (Or.inl rfl) | exact Or.inr (Or.inr rfl)) (hd : (xn == ("__debug__" : Str)) = false := by decide) (hcd : (xn == ("__classdict__" : Str)) = false := by decide)
    (hg : Gl X x := by rfl) (hdb : (x == ("__debug__" : Str)) = false := by decide) (hs : starEach (.Name xn pn :: es) X.env = (false, eval (.Name xn pn) X.env) :: starEach es X.env := by rfl) (hpl : (backTo pos (starEach es X.env)).any (·.1) = false := by rfl) :
    PE X (.Call (.Name x p) (.Name xn pn :: es) [] pos) (tE B Γ R (fun s K => mr s fun y s1 => mf y (get s1) fun r t => K r (put s1 t))) :=
  pe_imp (pe_call F hr hg hm hk hb .nil (pass0 (X := X)) (pa_cons (pe_var hN hv hd hcd) ha hs) hdb hs hpl) fun _ _ _ q => call_b hG hP q

/-! ### instances -/
/-- what is an instance of the class at C, with no attribute of the name -/
def InsR (R : α → Pd) (C : Addr) (mn : Str) : Prop := ∀ x v F, (R x).p v F → ∃ a dx fs, v = .ref a ∧ F a = some (.ins C dx fs) ∧ fs.lookup mn = none
theorem te_meth {mf : (α × ι) → (β → Prop) → Prop} {pl : Sem Bool} (hI : InsR R C mn) (ho : PE X o (tE B Γ R m)) (c : Cls X.K C) (hm : Meth X.K C mn f) (F : FnOk X.prog X.w X.K X.mg X.base CX0 k f fd ps (spP (acons R As) Rb mf)) (hr : Room k X.A) (hb : Binds X.K fd ps []) (ha : PA X (e :: es) (tA B Γ As mr))
    (hst : starEach (e :: es) X.env = (false, eval e X.env) :: starEach es X.env := by rfl) (hpl : (backTo pos (starEach es X.env)).any (·.1) = false := by rfl)
    (ht : eval (.Call (.Attribute o mn apos) (e :: es) [] pos) X.env = (do
      let ov ← eval o X.env
      standAt apos.atName
      let (f, first) ← holding [ov] (getMethod ov mn pl)
      callWith pos f first (backTo pos (starEach (e :: es) X.env)) (backToKw pos (keywordEach [] X.env))) := by rfl) :
    PE X (.Call (.Attribute o mn apos) (e :: es) [] pos) (tE B Γ Rb (fun s K => m s fun x s0 => mr s0 fun y s1 => mf (x, y) fun r => K r s1)) :=
  pe_imp (pe_meth ho c hm F hr hb .nil (pass0 (X := X)) ha hst hpl ht) fun σ H Q ⟨s, F, K', A, hm, k⟩ => ⟨s, F, _, A, hm, fun x s0 v F0 H0 h0 A0 e0 r0 => by
    obtain ⟨a, dx, fs, rfl, h2, h3⟩ := hI x v F0 r0
    refine ⟨a, dx, fs, rfl, A0.sub _ _ h2, h3, s0, F0, _, A0, h0, fun y s1 vs F1 H1 h1 A1 e1 r1 => ?_⟩
    show spP _ _ _ (.ref a :: (vs ++ [])) H1 Q _
    rw [List.append_nil]
    exact ⟨(x, y), F1, _, ⟨(R x).mono _ _ _ e1 r0, r1⟩, A1.sub, h1, fun r v F' H' kr rv eF eH sb nw => k r s1 v F' H' kr (A1.grow eF eH sb nw) ((e0.trans e1).trans eF) rv⟩⟩
theorem te_meth0 {mf : (α × Unit) → (β → Prop) → Prop} {pl : Sem Bool} (hI : InsR R C mn) (ho : PE X o (tE B Γ R m)) (c : Cls X.K C) (hm : Meth X.K C mn f) (F : FnOk X.prog X.w X.K X.mg X.base CX0 k f fd ps (spP (acons R anil) Rb mf)) (hr : Room k X.A) (hb : Binds X.K fd ps [])
    (ht : eval (.Call (.Attribute o mn apos) [] [] pos) X.env = (do
      let ov ← eval o X.env
      standAt apos.atName
      let (f, first) ← holding [ov] (getMethod ov mn pl)
      callWith pos f first (backTo pos (starEach [] X.env)) (backToKw pos (keywordEach [] X.env))) := by rfl) :
    PE X (.Call (.Attribute o mn apos) [] [] pos) (tE B Γ Rb (fun s K => m s fun x s1 => mf (x, ()) fun r => K r s1)) :=
  pe_imp (pe_meth0 ho c hm F hr hb .nil (pass0 (X := X)) ht) fun σ H Q ⟨s, F, K', A, hm, k⟩ => ⟨s, F, _, A, hm, fun x s0 v F0 H0 h0 A0 e0 r0 => by
    obtain ⟨a, dx, fs, rfl, h2, h3⟩ := hI x v F0 r0
    refine ⟨a, dx, fs, rfl, A0.sub _ _ h2, h3, ?_⟩
    exact ⟨(x, ()), F0, _, ⟨r0, trivial⟩, A0.sub, h0, fun r v F' H' kr rv eF eH sb nw => k r s0 v F' H' kr (A0.grow eF eH sb nw) (e0.trans eF) rv⟩⟩
theorem te_make {mf : ι → (α → Prop) → Prop} (M : Mk X.K C f) (F : FnOk X.prog X.w X.K X.mg X.base CX0 k f fd ps (spI C As R mf)) (hr : Room (k + 1) X.A) (hm : X.mg x = some (.ref C)) (hb : Binds X.K fd ps []) (ha : PA X (e :: es) (tA B Γ As mr)) (hg : Gl X x := by rfl) (hdb : (x == ("__debug__" : Str)) = false := by decide)
    (hs : starEach (e :: es) X.env = (false, eval e X.env) :: starEach es X.env := by rfl) (hpl : (backTo pos (starEach es X.env)).any (·.1) = false := by rfl) :
    PE X (.Call (.Name x p) (e :: es) [] pos) (tE B Γ R (fun s K => mr s fun y s1 => mf y fun r => K r s1)) :=
  pe_imp (pe_make M F hr hg hm hb .nil (pass0 (X := X)) ha hdb hs hpl) fun σ H Q ⟨s, F, K', A, hm, k⟩ => ⟨s, F, _, A, hm, fun y s1 vs F1 H1 h1 A1 e1 r1 => by
    intro a dx na nd ne
    rw [List.append_nil]
    have fa := (A1.fresh na).1
    have fd' := (A1.fresh nd).1
    have keep : ∀ b u, H1 b = some u → (upd (upd H1 dx (.own a)) a (.ins C dx [])) b = some u := fun b u g => by
      rw [upd_ne (ne_of_none g na), upd_ne (ne_of_none g nd)]; exact g
    refine ⟨y, F1, _, a, dx, vs, rfl, r1, fun b u g => keep b u (A1.sub _ _ g), fa, fd', ne, upd_same, by rw [upd_ne ne, upd_same], h1, fun r F' H' kr rv eF eH sb nw => ⟨rfl, ?_⟩⟩
    refine k r s1 _ F' H' kr (A1.grow eF (fun b u g => eH b u (ne_of_none g na) (keep b u g)) sb fun b u g => ?_) (e1.trans eF) rv
    rcases nw b u g with z | z | z
    · exact .inl z
    · exact .inr (z ▸ na)
    · right
      cases q : H1 b with
      | none => rfl
      | some w => rw [keep b w q] at z; cases z⟩
/-- e.f -/
def FldR (R : α → Pd) (C : Addr) (fn : Str) (Rb : β → Pd) (get : α → β) : Prop := ∀ x v F, (R x).p v F → ∃ a dx fs w, v = .ref a ∧ F a = some (.ins C dx fs) ∧ fs.lookup fn = some w ∧ (Rb (get x)).p w F
theorem te_fld {fn : Str} {get : α → β} (hf : FldR R C fn Rb get) (c : Cls X.K C) (hn : NoAttr X.K C fn) (ho : PE X o (tE B Γ R m)) (hb : attributeBase o fn X.env (eval o X.env) = eval o X.env := by rfl) : PE X (.Attribute o fn pos) (tE B Γ Rb (fun s K => m s fun x s1 => K (get x) s1)) :=
  pe_imp (pe_fld ho hb) fun σ H Q ⟨s, F, K', A, hm, k⟩ => ⟨s, F, _, A, hm, fun x s1 v F1 H1 h1 A1 e1 r1 => by
    obtain ⟨a, dx, fs, w, rfl, h2, h3, h4⟩ := hf x v F1 r1
    exact ⟨a, C, dx, fs, w, rfl, A1.sub _ _ h2, c, hn, h3, k _ s1 w F1 H1 h1 A1 e1 h4⟩⟩
end

/-! ### statements -/
structure Xt where
  nx : L2.St → Hp → Hp → Prop
  rt : V → Hp → Hp → Prop
  bk : L2.St → Hp → Hp → Prop := fun _ _ _ => False
  ct : L2.St → Hp → Hp → Prop := fun _ _ _ => False
structure Lk (P : Xt) (D : Ends) : Prop where
  nx : ∀ σ F H, P.nx σ F H → D.nx σ H
  rt : ∀ v F H, P.rt v F H → D.rt v H
  bk : ∀ σ F H, P.bk σ F H → D.bk σ H
  ct : ∀ σ F H, P.ct σ F H → D.ct σ H
def tS {S : Type} (B : Bs) (Γ : S → List Sl) (P : Xt) (m : S → Prop) : TS := fun D σ H => ∃ s F, At B (Γ s) σ F H ∧ m s ∧ Lk P D
def nxX {S : Type} (B : Bs) (Γ : S → List Sl) (Kn : S → Prop) : L2.St → Hp → Hp → Prop := fun σ F H => ∃ s, Kn s ∧ At B (Γ s) σ F H
def Fin (B : Bs) (F H : Hp) : Prop := Same B.F F ∧ Same F H ∧ (∀ a o, B.H a = some o → ¬ B.bor a → H a = some o) ∧ Nw B.F B.H F
theorem At.fin {B : Bs} {Γ : List Sl} {σ : L2.St} {F H : Hp} (A : At B Γ σ F H) : Fin B F H := ⟨A.ext, A.sub, A.kept, A.new⟩
/-- the ends of a def whose arguments are not changed; of one with a lent argument -/
def xP {α : Type} (B : Bs) (R : α → Pd) (Kf : α → Prop) : Xt := { nx := fun _ F H => ∃ r, Kf r ∧ (R r).p .non F ∧ Fin B F H, rt := fun v F H => ∃ r, Kf r ∧ (R r).p v F ∧ Fin B F H }
def xB {α T : Type} (B : Bs) (j : Addr) (O : T → Od) (R : α → Pd) (Kf : α → T → Prop) : Xt := { nx := fun _ F H => ∃ r t o, Kf r t ∧ (R r).p .non F ∧ Fin B F H ∧ F j = none ∧ H j = some o ∧ (O t).p o F, rt := fun v F H => ∃ r t o, Kf r t ∧ (R r).p v F ∧ Fin B F H ∧ F j = none ∧ H j = some o ∧ (O t).p o F }

section
variable {X : Cx} {S S' : Type} {B : Bs} {Γ : S → List Sl} {Γj : S' → List Sl} {K : PySem.W.Frag} {α β γ ι T : Type} {R Ra : α → Pd} {Rb : β → Pd} {e c tg it : Expr} {pos p : Pos} {x : Str} {P : Xt} {st : Stmt} {rest sa sb body : List Stmt} {g : TG} {js : List Nat} {up : List Sl → α → List Sl}
variable {m : S → (α → S → Prop) → Prop} {mt : S → (Bool → S → Prop) → Prop} {O : T → Od}
theorem ts_ret {Kf : α → Prop} (he : PE X e (tE B Γ R m)) (hP : P.rt = (xP B R Kf).rt := by rfl) : PSs X [.Return (some e) pos] (tS B Γ P (fun s => m s fun x _ => Kf x)) :=
  pss_imp (pss_one (ps_ret he)) fun D σ H ⟨s, F, A, hm, L⟩ => ⟨s, F, _, A, hm, fun x s1 v F1 H1 h1 A1 e1 r1 => L.rt v F1 H1 (by rw [hP]; exact ⟨x, h1, r1, A1.fin⟩)⟩
theorem ts_retB {Kf : α → T → Prop} {j : Addr} (i : Nat) (get : S → T) (he : PE X e (tE B Γ R m)) (hG : ∀ s, (Γ s)[i]? = some (.bo j (O (get s))) := by intro _; rfl) (hP : P.rt = (xB B j O R Kf).rt := by rfl) : PSs X [.Return (some e) pos] (tS B Γ P (fun s => m s fun x s1 => Kf x (get s1))) :=
  pss_imp (pss_one (ps_ret he)) fun D σ H ⟨s, F, A, hm, L⟩ => ⟨s, F, _, A, hm, fun x s1 v F1 H1 h1 A1 e1 r1 => L.rt v F1 H1 (by
    obtain ⟨o, _, h2, h3, h4, _⟩ := A1.bo (hG s1)
    rw [hP]
    exact ⟨x, get s1, o, h1, r1, A1.fin, h2, h3, h4⟩)⟩
/-- nothing more here -/
theorem ts_end {Kn : S' → Prop} (π : S → S') (hle : ∀ s, Le (Γ s) (Γj (π s))) (hP : P.nx = nxX B Γj Kn := by rfl) : PSs X [] (tS B Γ P (fun s => Kn (π s))) :=
  pss_imp pss_nil fun D σ H ⟨s, F, A, hm, L⟩ => L.nx σ F H (by rw [hP]; exact ⟨π s, hm, A.le (hle s)⟩)
/-- this way is never gone -/
theorem ts_never {sts : List Stmt} : PSs X sts (tS B Γ P (fun _ => False)) := pss_imp pss_never fun D σ H ⟨s, F, A, hm, L⟩ => hm.elim
theorem lk_nx {P : Xt} {D : Ends} (L : Lk P D) {nx : L2.St → Hp → Hp → Prop} {n : L2.St → Hp → Prop} (h : ∀ σ F H, nx σ F H → n σ H) : Lk { P with nx := nx } { D with nx := n } := ⟨h, L.rt, L.bk, L.ct⟩
theorem ts_set {i : Nat} {mr : α → S → Prop} (h : PS X st (tAsg (tE B Γ R m) (gName i))) (hr : ∀ x, PSs X rest (tS B (fun s => (Γ s).set i (.im (R x))) P (mr x))) : PSs X (st :: rest) (tS B Γ P (fun s => m s fun x s1 => mr x s1)) :=
  pss_imp (pss_cons h (pss_ex hr)) fun D σ H ⟨s, F, A, hm, L⟩ => ⟨s, F, _, A, hm, fun x s1 v F1 H1 h1 A1 e1 r1 => ⟨x, s1, F1, A1.setIm r1, h1, L⟩⟩
/-- the same: what is stored becomes a part of the state -/
theorem ts_setS {i : Nat} {Γ' : S' → List Sl} {mk : S → α → S'} {mr : S' → Prop} (h : PS X st (tAsg (tE B Γ R m) (gName i))) (hG : ∀ s x, Γ' (mk s x) = (Γ s).set i (.im (R x))) (hr : PSs X rest (tS B Γ' P mr)) : PSs X (st :: rest) (tS B Γ P (fun s => m s fun x s1 => mr (mk s1 x))) :=
  pss_imp (pss_cons h hr) fun D σ H ⟨s, F, A, hm, L⟩ => ⟨s, F, _, A, hm, fun x s1 v F1 H1 h1 A1 e1 r1 => ⟨mk s1 x, F1, by rw [hG]; exact A1.setIm r1, h1, L⟩⟩
/-- a new list, owned -/
theorem ts_setO {i : Nat} {Γ' : S' → List Sl} {mk : S → List α → S'} {mr : S' → Prop} {m : S → (List α → S → Prop) → Prop} (h : PS X st (tAsg (tN B Γ R m) (gName i))) (hG : ∀ s x, Γ' (mk s x) = (Γ s).set i (.ow (OList R x))) (hr : PSs X rest (tS B Γ' P mr)) : PSs X (st :: rest) (tS B Γ P (fun s => m s fun x s1 => mr (mk s1 x))) :=
  pss_imp (pss_cons h hr) fun D σ H ⟨s, F, A, hm, L⟩ => ⟨s, F, _, A, hm, fun x s1 q vs F1 H1 h1 A1 e1 hq fq bq nq av => ⟨mk s1 x, F1, by rw [hG]; exact A1.setOw fq hq bq nq ⟨vs, rfl, av⟩, h1, L⟩⟩
theorem ts_expr {mr : S → Prop} (h : PE X e (tE B Γ R m)) (hr : PSs X rest (tS B Γ P mr)) (hs : swapsWith e none pos.line X.env = pure false := by rfl) : PSs X (.Expr e pos :: rest) (tS B Γ P (fun s => m s fun _ s1 => mr s1)) :=
  pss_imp (pss_cons (ps_expr h hs) hr) fun D σ H ⟨s, F, A, hm, L⟩ => ⟨s, F, _, A, hm, fun x s1 v F1 H1 h1 A1 e1 r1 => ⟨s1, F1, A1, h1, L⟩⟩
/-- the owned list of slot i is not changed any more -/
theorem ts_freeze (i : Nat) {Γ' : S → List Sl} {get : S → List α} {mr : S → Prop} (hG : ∀ s, (Γ s)[i]? = some (.ow (OList R (get s)))) (hG' : ∀ s, Γ' s = (Γ s).set i (.im (RLst R (get s)))) (hr : PSs X rest (tS B Γ' P mr)) : PSs X rest (tS B Γ P mr) :=
  pss_imp hr fun D σ H ⟨s, F, A, hm, L⟩ => by
    obtain ⟨F', A', _⟩ := A.freeze (hG s) (P := RLst R (get s)) fun q o F' ⟨vs, h1, h2⟩ h3 => ⟨q, vs, rfl, by rw [h3, h1], h2⟩
    exact ⟨s, F', by rw [hG']; exact A', hm, L⟩
/-- another word for the same state -/
theorem ts_as {Γ' : S' → List Sl} (π : S → S') {mr : S' → Prop} (hle : ∀ s, Le (Γ s) (Γ' (π s))) (hr : PSs X rest (tS B Γ' P mr)) : PSs X rest (tS B Γ P (fun s => mr (π s))) :=
  pss_imp hr fun D σ H ⟨s, F, A, hm, L⟩ => ⟨π s, F, A.le (hle s), hm, L⟩
theorem ts_if {ma mb : S → (S' → Prop) → Prop} {mr : S' → Prop} (hc : PT X c (tT B Γ mt)) (ha : ∀ Kn, PSs X sa (tS B Γ { P with nx := nxX B Γj Kn } (fun s => ma s Kn))) (hb : ∀ Kn, PSs X sb (tS B Γ { P with nx := nxX B Γj Kn } (fun s => mb s Kn))) (hr : PSs X rest (tS B Γj P mr)) :
    PSs X (.If c sa sb pos :: rest) (tS B Γ P (fun s => mt s fun bb s1 => mIf bb (ma s1) (mb s1) mr)) :=
  pss_imp (pss_cons (ps_if hc (ha mr) (hb mr)) hr) fun D σ H ⟨s, F, A, hm, L⟩ => ⟨s, F, _, A, hm, fun bb s1 F1 H1 h1 A1 e1 => by
    have L' : Lk { P with nx := nxX B Γj mr } { D with nx := fun σ H => tS B Γj P mr D σ H } := lk_nx L fun σ F H ⟨s', k, A'⟩ => ⟨s', F, A', k, L⟩
    cases bb with
    | true => exact iteT ⟨s1, F1, A1, h1, L'⟩
    | false => exact iteF ⟨s1, F1, A1, h1, L'⟩⟩
/-- the first way doesn't come out -/
theorem ts_ifr {ma mr : S → Prop} (hc : PT X c (tT B Γ mt)) (ha : PSs X sa (tS B Γ { P with nx := fun _ _ _ => False } ma)) (hr : PSs X rest (tS B Γ P mr)) :
    PSs X (.If c sa [] pos :: rest) (tS B Γ P (fun s => mt s fun bb s1 => if bb = true then ma s1 else mr s1)) :=
  pss_imp (pss_cons (ps_if hc ha pss_nil) hr) fun D σ H ⟨s, F, A, hm, L⟩ => ⟨s, F, _, A, hm, fun bb s1 F1 H1 h1 A1 e1 => by
    cases bb with
    | true => exact iteT ⟨s1, F1, A1, of_iteT h1, lk_nx L fun σ F H z => z.elim⟩
    | false => exact iteF ⟨s1, F1, A1, of_iteF h1, L⟩⟩
def PSrc (J : It) (R : α → Pd) (xs : List α) : Pd := ⟨fun _ F => Src J F R xs, fun _ F F' e h F1 H1 e1 e2 => h F1 H1 (e.trans e1) e2⟩
theorem ts_for {Γh : S' → List Sl} {mi : S → (List α → S → Prop) → Prop} {mb : α → S' → (S' → Prop) → Prop} {mr : S' → Prop} (π : S → S') (hle : ∀ s, Le (Γ s) (Γh (π s))) (hi : PI X tg it (tI B Γ R mi)) (hg : PG X tg g) (tgt : Tg g R js up)
    (hb : ∀ (q : List (V × Pd)) (x : α) (Kn : S' → Prop), PSs X body (tS { B with pins := q } (fun s => up (Γh s) x) { P with nx := nxX { B with pins := q } Γh Kn, ct := nxX { B with pins := q } Γh Kn, bk := fun _ _ _ => False } (fun s => mb x s Kn))) (hr : PSs X rest (tS B Γh P mr))
    (hp : PassesOwn (model X.prog X.w) X.A X.env X.xe) (hc : X.calm = true := by rfl) (hs : ∀ x, foldedSetIterable it X.env x = pure x := by intro _; rfl) :
    PSs X (.For tg it body [] pos :: rest) (tS B Γ P (fun s => mi s fun xs s1 => mFor xs mb (π s1) mr)) :=
  pss_imp (pss_cons (ps_for hp hc hi hg (pss_ex fun z : List (V × Pd) × α × (S' → Prop) => hb z.1 z.2.1 z.2.2) hs) hr) fun D σ H ⟨s, F, A, hm, L⟩ => ⟨s, F, _, A, hm, fun xs s1 J F1 H1 h1 A1 e1 src => by
    refine ⟨fun i mm σ' H' => ∃ s' F', mm = xs.length - i ∧ i ≤ xs.length ∧ Src J F' R xs ∧ At B (Γh s') σ' F' H' ∧ mFor (xs.drop i) mb s' mr, ⟨xs.length, π s1, F1, by simp, Nat.zero_le _, src, A1.le (hle s1), by simpa using h1⟩, ?_⟩
    rintro i mm σ' H' ⟨s', F', rfl, hi, src', A', hk⟩
    obtain ⟨z1, z2, z3⟩ := src' F' H' (Same.refl _) A'.sub
    by_cases hlt : i < xs.length
    · rw [List.drop_eq_getElem_cons hlt] at hk
      refine .inr ⟨z2 i hlt, fun σ2 H2 => ∃ s' F', i + 1 ≤ xs.length ∧ Src J F' R xs ∧ At B (Γh s') σ2 F' H2 ∧ mFor (xs.drop (i + 1)) mb s' mr, fun σ2 H2 ⟨s2, F2, q1, q2, q3, q4⟩ => ⟨xs.length - (i + 1), by omega, s2, F2, rfl, q1, q2, q3, q4⟩, fun v H2 hy => ?_⟩
      obtain ⟨F2, f1, f2, f3, f4, f5⟩ := z3 i xs[i] v H2 (List.getElem?_eq_getElem hlt) hy
      have A2 := (A'.grow f1 f2 f3 f4).pinned (v := .non) (P := PSrc J R xs) ((PSrc J R xs).mono .non _ _ f1 src')
      refine tgt.run A2 f5 fun σ3 A3 _ => ?_
      have hk : mb xs[i] s' fun s2 => mFor (xs.drop (i + 1)) mb s2 mr := hk
      have out : ∀ σ4 F4 H4, nxX { B with pins := (.non, PSrc J R xs) :: B.pins } Γh (fun s2 => mFor (xs.drop (i + 1)) mb s2 mr) σ4 F4 H4 → ∃ s' F', i + 1 ≤ xs.length ∧ Src J F' R xs ∧ At B (Γh s') σ4 F' H4 ∧ mFor (xs.drop (i + 1)) mb s' mr := fun σ4 F4 H4 ⟨s4, k4, A4⟩ => by
        obtain ⟨A5, p5⟩ := A4.unpinned
        exact ⟨s4, F4, hlt, p5, A5, k4⟩
      exact ⟨⟨(.non, PSrc J R xs) :: B.pins, xs[i], fun s2 => mFor (xs.drop (i + 1)) mb s2 mr⟩, s', F2, A3, hk, ⟨out, L.rt, fun _ _ _ z => z.elim, out⟩⟩
    · have e : i = xs.length := by omega
      subst e
      rw [List.drop_length] at hk
      exact .inl ⟨z1 _ (Nat.le_refl _), s', F', A', hk, L⟩⟩
theorem ts_while {Γh : S' → List Sl} {mt : S' → (Bool → S' → Prop) → Prop} {mb : S' → (S' → Prop) → Prop} {mr : S' → Prop} (π : S → S') (hle : ∀ s, Le (Γ s) (Γh (π s))) (hc : PT X c (tT B Γh mt))
    (hb : ∀ (Kn : S' → Prop), PSs X body (tS B Γh { P with nx := nxX B Γh Kn, ct := nxX B Γh Kn, bk := fun _ _ _ => False } (fun s => mb s Kn))) (hr : PSs X rest (tS B Γh P mr)) (hp : PassesOwn (model X.prog X.w) X.A X.env X.xe) :
    PSs X (.While c body [] pos :: rest) (tS B Γ P (fun s => mWhile mt mb (π s) mr)) :=
  pss_imp (pss_cons (ps_while hp hc (pss_ex hb)) hr) fun D σ H ⟨s, F, A, ⟨Wm, ⟨n0, w0⟩, step⟩, L⟩ => by
    refine ⟨fun n σ' H' => ∃ s' F', At B (Γh s') σ' F' H' ∧ Wm n s', ⟨n0, π s, F, A.le (hle s), w0⟩, ?_⟩
    rintro n σ' H' ⟨s', F', A', w'⟩
    refine ⟨s', F', fun b s1 => if b = true then mb s1 fun s2 => ∃ n', n' < n ∧ Wm n' s2 else mr s1, A', step n s' w', fun b s1 F1 H1 h1 A1 e1 => ?_⟩
    cases b with
    | true =>
      refine iteT ⟨fun σ2 H2 => ∃ s2 F2, At B (Γh s2) σ2 F2 H2 ∧ ∃ n', n' < n ∧ Wm n' s2, fun σ2 H2 ⟨s2, F2, A2, n', l, w2⟩ => ⟨n', l, s2, F2, A2, w2⟩, ?_⟩
      have out : ∀ σ4 F4 H4, nxX B Γh (fun s2 => ∃ n', n' < n ∧ Wm n' s2) σ4 F4 H4 → ∃ s2 F2, At B (Γh s2) σ4 F2 H4 ∧ ∃ n', n' < n ∧ Wm n' s2 := fun σ4 F4 H4 ⟨s4, k4, A4⟩ => ⟨s4, F4, A4, k4⟩
      exact ⟨fun s2 => ∃ n', n' < n ∧ Wm n' s2, s1, F1, A1, of_iteT h1, ⟨out, L.rt, fun _ _ _ z => z.elim, out⟩⟩
    | false => exact iteF ⟨s1, F1, A1, of_iteF h1, L⟩

/-! ### owned lists -/
variable {get : S → List α} {put : S → List α → S} {xn : Str} {pn apos cpos : Pos} {b : Expr}
abbrev FewArgs (X : Cx) (cp : Pos) (as : List Expr) : Prop := ((backTo cp (starEach as X.env)).all (fun y => !y.1) && (backToKw cp (keywordEach [] X.env)).all (fun y => y.1.isSome) && decide (as.length + ([] : List Keyword).length + (if ([] : List Keyword).isEmpty then 0 else 1) < 30)) = true
theorem te_append (i : Nat) (get : S → List α) (put : S → List α → S) (he : PE X e (tE B Γ R m)) (hG : ∀ s, (Γ s)[i]? = some (.ow (OList R (get s))) := by intro _; rfl) (hP : ∀ s t, Γ (put s t) = (Γ s).set i (.ow (OList R t)) := by intro _ _; rfl)
    (hN : X.N[i]? = some xn := by rfl) (hv : Vis X.env.scope xn := by first | exact Or.inl rfl | exact Or.inr (Or.inl rfl) | exact Or.inr (Or.inr rfl)) (hd : (xn == ("__debug__" : Str)) = false := by decide) (hcd : (xn == ("__classdict__" : Str)) = false := by decide)
    (hs : starEach [e] X.env = (false, eval e X.env) :: starEach [] X.env := by rfl) (hpl : (backTo cpos (starEach [] X.env)).any (·.1) = false := by rfl)
    (hbase : attributeBase (.Name xn pn) "append" X.env (eval (.Name xn pn) X.env) = eval (.Name xn pn) X.env := by rfl) (hline : (apos.endLine == cpos.line) = true := by rfl) (hfew : FewArgs X cpos [e] := by rfl) :
    PE X (.Call (.Attribute (.Name xn pn) "append" apos) [e] [] cpos) (tE B Γ RNon (fun s K => m s fun y s1 => (get s1).length ≤ 1000000 ∧ K () (put s1 (get s1 ++ [y])))) :=
  pe_imp (pe_bm PySem.F.plainAttrs_list PySem.F.slot_list_append PySem.F.type_list_append mt_append (pe_var hN hv hd hcd) (pa_cons he pa_nil hs) hbase hfew hline hs hpl) fun σ H Q ⟨s, F, K', A, hm, k⟩ => by
    obtain ⟨q, o, h1, h2, h3, ⟨vs, h4, h5⟩, h6⟩ := A.ow (hG s)
    subst h4
    refine ⟨_, h1, .inl ⟨rfl, vs, SqL.of h3⟩, s, F, _, A, hm, fun y s1 v F1 H1 ⟨hz, k1⟩ A1 e1 r1 => ?_⟩
    obtain ⟨q', o', g1, g2, g3, ⟨vs', g4, g5⟩, g6⟩ := A1.ow (hG s1)
    rw [h1] at g1
    cases g1
    subst g4
    refine ⟨q, vs', v, rfl, rfl, g3, by rw [g5.len]; exact Nat.lt_of_le_of_lt hz (by decide), k () (put s1 (get s1 ++ [y])) _ F1 _ k1 ?_ e1 rfl⟩
    rw [hP]
    exact A1.write (hG s1) h1 ⟨_, rfl, g5.append ⟨r1, trivial⟩⟩
theorem te_pop (i : Nat) (get : S → List α) (put : S → List α → S) (hG : ∀ s, (Γ s)[i]? = some (.ow (OList R (get s))) := by intro _; rfl) (hP : ∀ s t, Γ (put s t) = (Γ s).set i (.ow (OList R t)) := by intro _ _; rfl)
    (hN : X.N[i]? = some xn := by rfl) (hv : Vis X.env.scope xn := by first | exact Or.inl rfl | exact Or.inr (Or.inl rfl) | exact Or.inr (Or.inr rfl)) (hd : (xn == ("__debug__" : Str)) = false := by decide) (hcd : (xn == ("__classdict__" : Str)) = false := by decide)
    (hbase : attributeBase (.Name xn pn) "pop" X.env (eval (.Name xn pn) X.env) = eval (.Name xn pn) X.env := by rfl) (hline : (apos.endLine == cpos.line) = true := by rfl) :
    PE X (.Call (.Attribute (.Name xn pn) "pop" apos) [] [] cpos) (tE B Γ R (fun s K => ∃ y, (get s)[(get s).length - 1]? = some y ∧ K y (put s (get s).dropLast))) :=
  pe_imp (pe_bm0 PySem.F.plainAttrs_list PySem.F.slot_list_pop PySem.F.type_list_pop mt_pop (pe_var hN hv hd hcd) hbase hline) fun σ H Q ⟨s, F, K', A, ⟨y, hy, hm⟩, k⟩ => by
    obtain ⟨q, o, h1, h2, h3, ⟨vs, h4, h5⟩, h6⟩ := A.ow (hG s)
    subst h4
    obtain ⟨v, hv, rv⟩ := h5.get hy
    refine ⟨_, h1, .inl ⟨rfl, vs, SqL.of h3⟩, q, vs, v, rfl, rfl, h3, by rw [h5.len]; exact hv, k y (put s (get s).dropLast) v F _ hm ?_ (Same.refl _) rv⟩
    rw [hP]
    exact A.write (hG s) h1 ⟨_, rfl, h5.dropLast⟩
theorem te_ownLen (i : Nat) (get : S → List α) (Pl : BP X "len" (.builtin "len")) (hG : ∀ s, (Γ s)[i]? = some (.ow (OList R (get s))) := by intro _; rfl) (hN : X.N[i]? = some xn := by rfl) (hv : Vis X.env.scope xn := by first | exact Or.inl rfl | exact Or.inr (Or.inl rfl) | exact Or.inr (Or.inr rfl)) (hd : (xn == ("__debug__" : Str)) = false := by decide) (hcd : (xn == ("__classdict__" : Str)) = false := by decide)
    (hs : starEach [.Name xn pn] X.env = (false, eval (.Name xn pn) X.env) :: starEach [] X.env := by rfl) (hpl : (backTo pos (starEach [] X.env)).any (·.1) = false := by rfl) :
    PE X (.Call (.Name "len" p) [.Name xn pn] [] pos) (tE B Γ RInt (fun s K => K ((get s).length : Int) s)) :=
  pe_imp (pe_bf Pl call_len_seq (pa_cons (pe_var hN hv hd hcd) pa_nil hs) hs hpl) fun σ H Q ⟨s, F, K', A, hm, k⟩ => by
    obtain ⟨q, o, h1, h2, h3, ⟨vs, h4, h5⟩, h6⟩ := A.ow (hG s)
    subst h4
    exact ⟨_, h1, q, vs, rfl, .inl (SqL.of h3), by rw [h5.len]; exact k _ s _ F H hm A (Same.refl _) rfl⟩
theorem te_ownIx (i : Nat) (get : S → List α) {mb : S → (Int → S → Prop) → Prop} (hb : PE X b (tE B Γ RInt mb)) (hG : ∀ s, (Γ s)[i]? = some (.ow (OList R (get s))) := by intro _; rfl) (hN : X.N[i]? = some xn := by rfl) (hv : Vis X.env.scope xn := by first | exact Or.inl rfl | exact Or.inr (Or.inl rfl) | exact Or.inr (Or.inr rfl)) (hd : (xn == ("__debug__" : Str)) = false := by decide) (hcd : (xn == ("__classdict__" : Str)) = false := by decide)
    (hs : PlainIx b := by exact fun _ _ => rfl) :
    PE X (.Subscript (.Name xn pn) b pos) (tE B Γ R (fun s K => mb s fun j s1 => ∃ y, pyAt (get s1) j = some y ∧ K y s1)) :=
  pe_imp (pe_ix ix_list (pe_var hN hv hd hcd) hb hs) fun σ H Q ⟨s, F, K', A, hm, k⟩ => by
    obtain ⟨q, o, h1, h2, h3, ⟨vs, h4, h5⟩, h6⟩ := A.ow (hG s)
    refine ⟨_, h1, s, F, _, A, hm, fun j s1 w F1 H1 ⟨y, hy, k1⟩ A1 e1 r1 => ?_⟩
    obtain ⟨q', o', g1, g2, g3, ⟨vs', g4, g5⟩, g6⟩ := A1.ow (hG s1)
    rw [h1] at g1
    cases g1
    subst g4
    obtain ⟨u, hu, ru⟩ := allR_at g5 hy
    exact ⟨q, vs', j, u, rfl, r1, SqL.of g3, hu, k y s1 u F1 H1 k1 A1 e1 ru⟩
/-- found != [], found == [] -/
theorem dpAllH {F H : Hp} {d : α → PyData} {n : Nat} (hK : X.K = K) (h : Dat K R d n) (e : Same F H) {xs : List α} {vs : List V} (av : AllR R xs vs F) : DpAll X.K H vs (xs.map d) := by
  subst hK
  induction xs generalizing vs with
  | nil => cases vs with | nil => exact .nil | cons => exact av.elim
  | cons x xs ih => cases vs with | nil => exact av.elim | cons v vs => exact .cons (Dp.same e (h.dp x v F av.1)) (ih av.2)
theorem tt_ownNe0 (i : Nat) (get : S → List α) {d : α → PyData} {n : Nat} {p1 : Pos} (hu : X.A.units + 64 < cLine) (h : Dat K R d n) (hn : n ≤ 50 := by decide) (hG : ∀ s, (Γ s)[i]? = some (.ow (OList R (get s))) := by intro _; rfl) (hN : X.N[i]? = some xn := by rfl) (hv : Vis X.env.scope xn := by first | exact Or.inl rfl | exact Or.inr (Or.inl rfl) | exact Or.inr (Or.inr rfl)) (hd : (xn == ("__debug__" : Str)) = false := by decide) (hcd : (xn == ("__classdict__" : Str)) = false := by decide) (hK : X.K = K := by rfl) :
    PT X (.Compare (.Name xn pn) [.NotEq] [.List [] p1] pos) (tT B Γ (fun s K => K (!(get s).isEmpty) s)) :=
  pt_imp (pt_cmpR (op_neD hu) (pe_var hN hv hd hcd) (pe_lst pa_nil) (nomark _)) fun σ H Q ⟨s, F, K', A, hm, k⟩ => by
    obtain ⟨q, o, h1, h2, h3, ⟨vs, h4, h5⟩, h6⟩ := A.ow (hG s)
    subst h4
    refine ⟨_, h1, Nat.zero_le _, fun r nr => ?_⟩
    have A2 := A.layH (o := .lst []) nr
    have nq : q ≠ r := ne_of_none h3 nr
    refine ⟨.list ((get s).map d), .list [], .lst (SqL.of (by rw [upd_ne nq]; exact h3)) (dpAllH hK h A2.sub h5), .lst (SqL.of upd_same) .nil, ?_, rfl, ?_⟩
    · have hl : PyData.depthAll ((get s).map d) ≤ n := depAll h.dep _
      have hl2 : (PyData.list ((get s).map d)).depth ≤ 64 := by
        show PyData.depthAll ((get s).map d) + 1 ≤ 64
        omega
      unfold SeqAt.shaped
      rw [show PyData.canLay0 (.list ((get s).map d)) = true from canAll h.lay _, decide_eq_true hl2]
      rfl
    · have : (!PyData.eqv (.list ((get s).map d)) (.list [])) = !(get s).isEmpty := by
        cases get s with
        | nil => rfl
        | cons x xs => rfl
      rw [this]
      exact ⟨_, rfl, k _ s F _ hm A2 (Same.refl _)⟩
theorem tn_ownTuple (i : Nat) (get : S → List α) (Pl : BP X "tuple" (.type "tuple")) (hG : ∀ s, (Γ s)[i]? = some (.ow (OList R (get s))) := by intro _; rfl) (hN : X.N[i]? = some xn := by rfl) (hv : Vis X.env.scope xn := by first | exact Or.inl rfl | exact Or.inr (Or.inl rfl) | exact Or.inr (Or.inr rfl)) (hd : (xn == ("__debug__" : Str)) = false := by decide) (hcd : (xn == ("__classdict__" : Str)) = false := by decide)
    (hs : starEach [.Name xn pn] X.env = (false, eval (.Name xn pn) X.env) :: starEach [] X.env := by rfl) (hpl : (backTo pos (starEach [] X.env)).any (·.1) = false := by rfl) :
    PE X (.Call (.Name "tuple" p) [.Name xn pn] [] pos) (tE B Γ (RTup K R) (fun s K => K (get s) s)) :=
  pe_imp (pe_bt Pl call_tuple_of (pa_cons (pe_var hN hv hd hcd) pa_nil hs) hs hpl) fun σ H Q ⟨s, F, K', A, hm, k⟩ => by
    obtain ⟨q, o, h1, h2, h3, ⟨vs, h4, h5⟩, h6⟩ := A.ow (hG s)
    subst h4
    refine ⟨_, h1, q, vs, rfl, .inl ⟨SqL.of h3, fun l nl => ?_⟩⟩
    obtain ⟨A2, e2⟩ := A.lay (o := .tup vs) nl
    exact k _ s _ _ _ hm A2 e2 ⟨l, vs, rfl, SqT.of upd_same, h5.mono e2⟩
end

theorem ts_use {X : Cx} {S : Type} {B : Bs} {Γ : S → List Sl} {P : Xt} {ss : List Stmt} {m m' : S → Prop} (h : PSs X ss (tS B Γ P m')) (i : ∀ s, m s → m' s) : PSs X ss (tS B Γ P m) :=
  pss_imp h fun D σ H ⟨s, F, A, hm, L⟩ => ⟨s, F, A, i s hm, L⟩

/-! ### a def by its body -/
def startG (N : List Str) (Ps : List Pd) : List Sl := Ps.map .im ++ List.replicate (N.length - Ps.length) .any
theorem fits_start {B : Bs} {F H : Hp} (n : Nat) : ∀ {Ps : List Pd} {vs : List V}, AllP Ps vs F → Fits B F H (Ps.map .im ++ List.replicate n .any) (vs.map some ++ List.replicate n none) ∧ owA (Ps.map .im ++ List.replicate n .any) (vs.map some ++ List.replicate n none) = []
  | [], [], _ => by
    induction n with
    | zero => exact ⟨trivial, rfl⟩
    | succ n ih =>
      rw [List.replicate_succ, List.replicate_succ]
      exact ⟨⟨trivial, ih.1⟩, ih.2⟩
  | P :: Ps, v :: vs, h => by
    obtain ⟨r1, r2⟩ := fits_start (B := B) (H := H) n h.2
    exact ⟨⟨⟨v, rfl, h.1⟩, r1⟩, r2⟩
section
variable {P : Program} {w : World} {K : PySem.W.Frag} {mg : Str → Option Value} {base : Heap} {xq qual : Str} {st : Stmt} {f : Addr} {fd : FuncData} {N ps : List Str} {k : Nat} {ι α T : Type} {As : ι → List Pd} {R : α → Pd} {O : T → Od}
theorem fnP {mf : ι → (α → Prop) → Prop} (F : Fun K xq qual st f fd) (Sc : FnScope N ps (defScope st)) (hl : ∀ y, (As y).length = ps.length)
    (hb : ∀ (cdv : Value) (A : Around) (outer : List Env) (s : Shared) (H : Hp) (E : XK), Room k (A.deeper (PyProof.Rows.envOfC qual (defScope st) s.heap.objs.size f cdv)) → ∀ (y : ι) (Kf : α → Prop) (B : Bs),
      PSs (cxOf CX0 P w K mg base N qual (defScope st) f cdv A outer s H E).nox (defBody st) (tS B (fun _ : Unit => startG N (As y)) (xP B R Kf) (fun _ => mf y Kf))) : FnOk P w K mg base CX0 (k + 1) f fd ps (spP As R mf) := by
  refine F.ok Sc (fun vs H Q E ⟨y, F, K', h1, _⟩ => by rw [h1.len, hl]) fun cdv A outer s H vs Q E hr ⟨y, F0, K', h1, h2, h3, h4⟩ => ⟨_, hb cdv A outer s H E hr y K' ⟨F0, H, fun _ => False, []⟩, (), F0, ?_, h3, ?_⟩
  · have hN : (As y).length ≤ N.length := by
      rw [hl]
      have := congrArg List.length Sc.pre
      rw [List.length_take] at this
      omega
    have hv : vs.length = (As y).length := h1.len
    obtain ⟨r1, r2⟩ := fits_start (B := ⟨F0, H, fun _ => False, []⟩) (H := H) (N.length - (As y).length) h1
    refine ⟨h2, Same.refl _, fun a o e _ => e, fun a o e => .inl e, ?_, ?_, fun a z => z.elim, fun _ z => nomatch z⟩
    · show Fits _ F0 H (startG N (As y)) (L2.start N vs)
      unfold startG L2.start
      rw [hv]
      exact r1
    · show (owA (startG N (As y)) (L2.start N vs)).Nodup
      unfold startG L2.start
      rw [hv, r2]
      exact List.Pairwise.nil
  · refine ⟨fun σ F' H' ⟨r, q1, q2, q3, q4, q5, q6⟩ => h4 r .non F' H' q1 q2 q3 (fun a o e => q5 a o e id) q4 q6, fun v F' H' ⟨r, q1, q2, q3, q4, q5, q6⟩ => h4 r v F' H' q1 q2 q3 (fun a o e => q5 a o e id) q4 q6, fun _ _ _ z => z.elim, fun _ _ _ z => z.elim⟩
theorem fnB {mf : ι → T → (α → T → Prop) → Prop} (F : Fun K xq qual st f fd) (Sc : FnScope N ps (defScope st)) (hl : ∀ y, (As y).length + 1 = ps.length)
    (hb : ∀ (cdv : Value) (A : Around) (outer : List Env) (s : Shared) (H : Hp) (E : XK), Room k (A.deeper (PyProof.Rows.envOfC qual (defScope st) s.heap.objs.size f cdv)) → ∀ (j : Addr) (y : ι) (Kf : α → T → Prop) (B : Bs),
      PSs (cxOf CX0 P w K mg base N qual (defScope st) f cdv A outer s H E).nox (defBody st) (tS B (fun t : T => .bo j (O t) :: ((As y).map .im ++ List.replicate (N.length - (As y).length - 1) .any)) (xB B j O R Kf) (fun t => mf y t Kf))) : FnOk P w K mg base CX0 (k + 1) f fd ps (spB O As R mf) := by
  refine F.ok Sc (fun vs H Q E ⟨y, t, F, K', j, ws, o, h1, h2, _⟩ => by rw [h1, List.length_cons, h2.len, hl]) fun cdv A outer s H vs Q E hr ⟨y, t, F0, K', j, ws, o, h0, h1, h2, hj1, hj2, hj3, h3, h4⟩ => ⟨_, hb cdv A outer s H E hr j y K' ⟨F0, H, fun a => a = j, []⟩, t, F0, ?_, h3, ?_⟩
  · subst h0
    have hN : (As y).length + 1 ≤ N.length := by
      rw [hl]
      have := congrArg List.length Sc.pre
      rw [List.length_take] at this
      omega
    have hv : ws.length = (As y).length := h1.len
    obtain ⟨r1, r2⟩ := fits_start (B := ⟨F0, H, fun a => a = j, []⟩) (H := H) (N.length - (As y).length - 1) h1
    have es : L2.start N (.ref j :: ws) = some (.ref j) :: (ws.map some ++ List.replicate (N.length - (As y).length - 1) none) := by
      unfold L2.start
      rw [List.map_cons, List.cons_append, List.length_cons, hv, Nat.sub_add_eq]
    refine ⟨h2, Same.refl _, fun a o e _ => e, fun a o e => .inl e, ?_, ?_, fun a z => ?_, fun _ z => nomatch z⟩
    · rw [es]
      exact ⟨⟨o, rfl, hj1, hj2, hj3, rfl⟩, r1⟩
    · rw [es]
      show ([j] ++ owA _ _).Nodup
      rw [r2]
      simp
    · have z : a = j := z
      subst z
      exact ⟨hj1, ⟨o, hj2⟩, o, hj2⟩
  · refine ⟨fun σ F' H' ⟨r, t', o', q1, q2, ⟨q3, q4, q5, q6⟩, q7, q8, q9⟩ => h4 r t' .non F' H' o' q1 q2 q3 (fun a u na e => q5 a u e na) q4 q6 q7 q8 q9, fun v F' H' ⟨r, t', o', q1, q2, ⟨q3, q4, q5, q6⟩, q7, q8, q9⟩ => h4 r t' v F' H' o' q1 q2 q3 (fun a u na e => q5 a u e na) q4 q6 q7 q8 q9, fun _ _ _ z => z.elim, fun _ _ _ z => z.elim⟩
end
end TL
namespace TL
open PySem L2

/-! ### == and != of instances by the text's own __eq__ -/
section
variable {prog : Program} {w : World} {A : Around} {E : Value → Shared → Prop} {s : Shared} {K : PySem.W.Frag} {x y C f : Addr} {ox oy : Obj} {od : Option Obj}
theorem slot_own {id owner n : String} {rest : List Value} {Q : Unit → Shared → Prop} (hk : builtinKind id = some .slot) (hs : splitId id = some (owner, n)) (ha : argsOk id ⟨.ref x :: rest, []⟩)
    (X : K.In s.heap) (I : PySem.W.InstAt s.heap x ox C od) (hM : PySem.W.mroIn K C (.type owner) = some true) (hq : Q () s) : wpAny (model prog w) A (checkBuiltinCall id ⟨.ref x :: rest, []⟩) Q E s := by
  simp only [checkBuiltinCall, hk, hs]
  refine wpAny_bind ?_
  unfold isInstance
  refine wpAny_bind (I.type.here ?_)
  refine (PySem.W.looks_mroIn X hM).here ?_
  simp only [Bool.not_true, Bool.false_eq_true, if_false]
  cases hsig : Manifest.signature? id with
  | none => exact wpAny_pure hq
  | some sig =>
    simp only [argsOk, hsig] at ha
    have h2 : Bind.checkArgs id sig ⟨.ref x :: rest, []⟩ = pure () := ha
    show wpAny (model prog w) A (Bind.checkArgs id sig ⟨.ref x :: rest, []⟩) Q E s
    rw [h2]
    exact wpAny_pure hq
theorem ne_body {Q : PySem.Fin → Shared → Prop} (hu : A.units < cLine) (X : K.In s.heap) (I : PySem.W.InstAt s.heap x ox C od) (he : PySem.W.findIn K (.ref C) "__eq__" = some (some (.ref f))) (hf : PySem.W.isFn K (.ref f) = true)
    (hcall : wpAny (model prog w) A (call (.ref f) [.ref x, .ref y]) (fun v s' => ∃ b, v = .bool b ∧ Q (.done (.ret (.bool (!b)))) s') E s) : wpAny (model prog w) A (Builtin.«object.__ne__» ⟨[.ref x, .ref y], []⟩) Q E s := by
  unfold Builtin.«object.__ne__»
  repeat (first
    | with_reducible refine wpAny_cRoomFor hu ?_
    | (refine wpAny_bind (m := callSpecialIfBound? (.ref x) (Str.ofString "__eq__") [.ref y]) (PySem.W.ifBound_K X I he hf (wpAny_mono hcall (fun r s' hr => by
          obtain ⟨b, rfl, hq⟩ := hr
          repeat (first | exact hq | exact wpAny_pure hq | exact wpAny_truthy_bool hq | (refine wpAny_bind (m := truthy (.bool _)) (wpAny_truthy_bool ?_)) | wp_step)) fun _ _ e => e)))
    | wp_step)
theorem ne_own {Q : Value → Shared → Prop} (hu : A.units + 1 < cLine) (X : K.In s.heap) (I : PySem.W.InstAt s.heap x ox C od) (Ty : PySem.W.Looks (model prog w) s.heap (typeOf (.ref y)) (.ref C)) (hn : PySem.W.findIn K (.ref C) "__ne__" = some (some (.builtin "object.__ne__"))) (hM : PySem.W.mroIn K C (.type "object") = some true)
    (he : PySem.W.findIn K (.ref C) "__eq__" = some (some (.ref f))) (hf : PySem.W.isFn K (.ref f) = true)
    (hcall : wpAny (model prog w) A.in1 (call (.ref f) [.ref x, .ref y]) (fun v s' => ∃ b, v = .bool b ∧ Q (.bool (!b)) s') E s) : wpAny (model prog w) A (richCompare .NotEq (.ref x) (.ref y)) Q E s := by
  have S := PySem.F.cmp_object.ne
  have called : wpAny (model prog w) A (call (.builtin "object.__ne__") [.ref x, .ref y]) (fun v s' => ∃ b, v = .bool b ∧ Q (.bool b) s') E s :=
    wpAny_call (codeAny_call_builtin S.plain PySem.F.cmpEntry_ne (slot_own PySem.F.cmpKind_ne PySem.F.cmpSplit_ne (PySem.F.cmpArgs_ne _ _) X I hM (ne_body (A := A.in1) hu X I he hf (wpAny_mono hcall (fun v s' ⟨b, hb, hq⟩ => ⟨b, hb, !b, rfl, hq⟩) fun _ _ e => e))))
  have one : wpAny (model prog w) A (tryCompare (.ref x) "__ne__" (.ref y)) (fun r s' => ∃ v, r = some v ∧ Q v s') E s := by
    unfold tryCompare
    simp only [callSpecialIfBound?, bindSpecialIfBound?]
    refine wpAny_bind (wpAny_holding (wpAny_bind (wpAny_bind (wpAny_bind (I.type.here ((PySem.W.looks_findIn X hn).here ?_))))))
    simp only [S.bind]
    refine wpAny_bind (wpAny_askSetting (wpAny_ite ?_))
    have fin : wpAny (model prog w) A (call (.builtin "object.__ne__") ([.ref x] ++ [.ref y]) >>= fun v => pure (some v)) (fun r s' => wpAny (model prog w) A (match r with | some .notImplemented => pure none | none => pure none | some v => pure (some v)) (fun r s' => ∃ v, r = some v ∧ Q v s') E s') E s :=
      wpAny_bind (wpAny_mono called (fun v s' ⟨b, hb, hq⟩ => by subst hb; exact wpAny_pure (wpAny_pure ⟨_, rfl, hq⟩)) fun _ _ h' => h')
    split
    · exact wpAny_bind (wpAny_pure (wpAny_pure fin))
    · exact wpAny_tryCatch (wpAny_bind (wpAny_pure (wpAny_pure fin)))
  unfold richCompare
  simp only [oneThing_ref]
  refine wpAny_holding (wpAny_bind (wpAny_cRoomFor (Nat.lt_of_succ_lt hu) ?_))
  rw [cmpInfo_NotEq]
  dsimp only
  refine wpAny_bind (I.type.here (wpAny_bind (Ty.here ?_)))
  rw [show (Value.ref C != Value.ref C) = false from by simp]
  simp only [Bool.false_eq_true, if_false]
  refine wpAny_bind (wpAny_pure ?_)
  simp only [Bool.false_eq_true, if_false]
  refine wpAny_bind (wpAny_mono one (fun r s' z => ?_) fun _ _ e => e)
  obtain ⟨v, rfl, hq⟩ := z
  exact wpAny_pure hq
end
section
variable {X : Cx} {α β : Type} {Ra : α → Pd} {Rb : β → Pd} {C D f : Addr} {fd : FuncData} {ps : List Str} {k : Nat} {mf : α × β × Unit → (Bool → Prop) → Prop} {g : α → β → Bool}
/-- what is an instance -/
def IsI (R : α → Pd) (C : Addr) : Prop := ∀ x v F, (R x).p v F → ∃ a dx fs, v = .ref a ∧ F a = some (.ins C dx fs)
def rOwn (sp : Sp) (C : Addr) : R2 := fun x y H Q => (∃ a b dx dy fs gs, x = .ref a ∧ y = .ref b ∧ H a = some (.ins C dx fs) ∧ H b = some (.ins C dy gs)) ∧ sp [x, y] H Q E0
theorem run_own {sp : Sp} {B : XK} {pins : List (Addr × Obj)} {s : Shared} {σ : L2.St} {H : Hp} {a b : Addr} {Q : VK} {Ar : Around} (Fn : FnOk X.prog X.w X.K X.mg X.base CX0 k f fd ps sp) (hb : Binds X.K fd ps []) (hr : Room k Ar) (hfr : Ar.frames = X.A.frames) (I : Inv X pins σ H s) (hsp : sp [.ref a, .ref b] H Q E0) :
    wpAny (model X.prog X.w) Ar (call (.ref f) [.ref a, .ref b]) (EP X pins σ Q) X.xe s := by
  have e := I.env0
  have e0 : Env0 X.prog X.w X.K X.mg X.base Ar X.stack s H := ⟨by rw [hfr]; exact e.frames, e.mod, e.bs, e.bsz, e.funs, e.frf, e.hok, e.bare⟩
  have hl := Fn.len _ _ _ _ hsp
  have r2 : Vals [V.ref a, V.ref b] [Value.ref a, Value.ref b] := .cons rfl (.cons rfl .nil)
  refine wpAny_call (codeAny_mono (Fn.run Ar X.stack s H ⟨[.ref a, .ref b], []⟩ [.ref a, .ref b] [.ref a, .ref b] Q E0 hr e0 (by
    have z := hb s [.ref a, .ref b] I.kIn (by simpa using hl)
    simpa using z) r2 hsp) fun r s' hq => ?_)
  cases r with
  | error ev => exact pass0 (X := X) pins σ H s ev s' I hq
  | ok fl =>
    cases fl with
    | ret u =>
      obtain ⟨z, H', I', rz, q⟩ := I.after hq
      exact ⟨z, H', I', rz, q⟩
    | next => exact False.elim hq
    | brk => exact False.elim hq
    | cont => exact False.elim hq
theorem cr_ownEq (h1 : IsI Ra C) (h2 : IsI Rb C) (Fn : FnOk X.prog X.w X.K X.mg X.base CX0 k f fd ps (spP (acons Ra (acons Rb anil)) RBool mf)) (hm : ∀ x y Kf, Kf (g x y) → mf (x, y, ()) Kf) (hs : PySem.W.findIn X.K (.ref C) "__eq__" = some (some (.ref f))) (hf : PySem.W.isFn X.K (.ref f) = true) (hb : Binds X.K fd ps []) (hr : Room k X.A) : CR X .Eq Ra Rb g := by
  refine ⟨fun x y H Q => (∃ a b dx dy fs gs, x = .ref a ∧ y = .ref b ∧ H a = some (.ins C dx fs) ∧ H b = some (.ins C dy gs)) ∧ spP (acons Ra (acons Rb anil)) RBool mf [x, y] H (fun v H' => (∃ c, v = .bl c) ∧ Q v H') E0, ?_, ?_⟩
  · intro pins s σ H x y v u Q I rx ry ⟨⟨a, b, dx, dy, fs, gs, ex, ey, ha, hb'⟩, hsp⟩
    subst ex; subst ey
    cases rx; cases ry
    obtain ⟨mA, J, _⟩ := ins_get I.hok ha
    obtain ⟨mB, J', _⟩ := ins_get I.hok hb'
    obtain ⟨od, J, _⟩ := J.look
    obtain ⟨od', J', _⟩ := J'.look
    obtain ⟨m, hF⟩ := I.fr
    show wpAny (model X.prog X.w) X.A (richCompare .Eq (.ref a) (.ref b)) _ _ s
    refine PySem.W.cmp_K (op := .Eq) (tb := .ref C) hr.units0 hF I.ok.mod.kin J J'.type (by simp [PySem.W.notFirst]) hs hf ?_
    refine wpAny_mono (run_own (B := E0) Fn hb hr rfl I hsp) (fun r s' ⟨z, H', I', rz, ⟨c, ec⟩, q⟩ => ?_) fun _ _ e => e
    subst ec
    cases (show r = Value.bool c from rz)
    exact ⟨.bl c, H', I', rfl, q⟩
  · intro x y v w F H Q hx hy e q
    obtain ⟨a, dx, fs, ea, ha⟩ := h1 x v F hx
    obtain ⟨b, dy, gs, eb, hb'⟩ := h2 y w F hy
    refine ⟨⟨a, b, dx, dy, fs, gs, ea, eb, e _ _ ha, e _ _ hb'⟩, (x, y, ()), F, fun r => r = g x y, ⟨hx, hy, trivial⟩, e, hm x y _ rfl, fun r v' F' H' hr' hv z1 z2 z3 z4 => ?_⟩
    have hv : v' = .bl r := hv
    subst hv; subst hr'
    exact ⟨⟨_, rfl⟩, q F' H' z1 z2 z3 z4⟩
theorem cr_ownNe (h1 : IsI Ra C) (h2 : IsI Rb C) (Fn : FnOk X.prog X.w X.K X.mg X.base CX0 k f fd ps (spP (acons Ra (acons Rb anil)) RBool mf)) (hm : ∀ x y Kf, Kf (g x y) → mf (x, y, ()) Kf) (hs : PySem.W.findIn X.K (.ref C) "__eq__" = some (some (.ref f))) (hf : PySem.W.isFn X.K (.ref f) = true) (hn : PySem.W.findIn X.K (.ref C) "__ne__" = some (some (.builtin "object.__ne__"))) (hM : PySem.W.mroIn X.K C (.type "object") = some true)
    (hb : Binds X.K fd ps []) (hr : Room (k + 1) X.A) : CR X .NotEq Ra Rb (fun x y => !g x y) := by
  refine ⟨fun x y H Q => (∃ a b dx dy fs gs, x = .ref a ∧ y = .ref b ∧ H a = some (.ins C dx fs) ∧ H b = some (.ins C dy gs)) ∧ spP (acons Ra (acons Rb anil)) RBool mf [x, y] H (fun v H' => ∃ c, v = .bl c ∧ Q (.bl (!c)) H') E0, ?_, ?_⟩
  · intro pins s σ H x y v u Q I rx ry ⟨⟨a, b, dx, dy, fs, gs, ex, ey, ha, hb'⟩, hsp⟩
    subst ex; subst ey
    cases rx; cases ry
    obtain ⟨mA, J, _⟩ := ins_get I.hok ha
    obtain ⟨mB, J', _⟩ := ins_get I.hok hb'
    obtain ⟨od, J, _⟩ := J.look
    obtain ⟨od', J', _⟩ := J'.look
    show wpAny (model X.prog X.w) X.A (richCompare .NotEq (.ref a) (.ref b)) _ _ s
    have hu : X.A.units + 1 < cLine := by have := hr.units; omega
    refine ne_own hu I.kIn J J'.type hn hM hs hf ?_
    refine wpAny_mono (run_own (B := E0) (Ar := X.A.in1) Fn hb hr.in1 rfl I hsp) (fun r s' ⟨z, H', I', rz, c, ec, q⟩ => ?_) fun _ _ e => e
    subst ec
    cases (show r = Value.bool c from rz)
    exact ⟨c, rfl, .bl (!c), H', I', rfl, q⟩
  · intro x y v w F H Q hx hy e q
    obtain ⟨a, dx, fs, ea, ha⟩ := h1 x v F hx
    obtain ⟨b, dy, gs, eb, hb'⟩ := h2 y w F hy
    refine ⟨⟨a, b, dx, dy, fs, gs, ea, eb, e _ _ ha, e _ _ hb'⟩, (x, y, ()), F, fun r => r = g x y, ⟨hx, hy, trivial⟩, e, hm x y _ rfl, fun r v' F' H' hr' hv z1 z2 z3 z4 => ?_⟩
    have hv : v' = .bl r := hv
    subst hv; subst hr'
    exact ⟨_, rfl, q F' H' z1 z2 z3 z4⟩
end

/-! ### t[::-1] of a tuple -/
section
variable {prog : Program} {w : World} {A : Around} {E : Value → Shared → Prop} {s : Shared}
theorem step_back {sl : Addr} {tk : Tok} {n : Nat} {Q : Int × Int × Nat → Shared → Prop} (hs : s.heap.IsSliceOf sl .none .none (.int (-1) tk)) (h : Q ((n : Int) - 1, -1, n) s) : wpAny (model prog w) A (Builtin.Slice.sliceApplied (.ref sl) (pure (n : Int))) Q E s := by
  obtain ⟨os, hos, hcs, hds⟩ := id hs
  unfold Builtin.Slice.sliceApplied Builtin.Slice.sliceFields
  refine wpAny_bind (wpAny_bind (wpAny_field hos hds (x := .none) rfl (wpAny_bind (wpAny_field hos hds (x := .none) rfl (wpAny_bind (wpAny_field hos hds (x := .int (-1) tk) rfl (wpAny_pure ?_)))))))
  refine wpAny_bind (HT.slicePart_ (.int (-1) tk) ?_)
  show wpAny _ _ (if (((some (-1 : Int)).getD 1) == 0) = true then _ else _) _ _ s
  rw [if_neg (by decide)]
  refine wpAny_bind (HT.slicePart_ .none (wpAny_bind (HT.slicePart_ .none (wpAny_bind (wpAny_pure ?_)))))
  have e1 : Builtin.Slice.sliceAdjust none none (-1) (n : Int) = ((n : Int) - 1, -1) := by
    unfold Builtin.Slice.sliceAdjust
    simp
  have e2 : Builtin.Slice.slicePlaces ((n : Int) - 1) (-1) (-1) = n := by
    unfold Builtin.Slice.slicePlaces
    simp only [show ¬ ((-1 : Int) > 0) by decide, if_false, show (- -1 : Int) = 1 by decide, Int.ediv_one]
    split <;> omega
  show wpAny _ _ (match Builtin.Slice.sliceAdjust none none (-1) (n : Int) with | (lo, hi) => pure (lo, (-1 : Int), Builtin.Slice.slicePlaces lo hi (-1))) _ _ s
  rw [e1]
  show wpAny _ _ (pure ((n : Int) - 1, (-1 : Int), Builtin.Slice.slicePlaces ((n : Int) - 1) (-1) (-1))) _ _ s
  rw [e2]
  exact wpAny_pure h
theorem fm_on {α β : Type} {f g : α → Option β} : ∀ {l : List α}, (∀ x ∈ l, f x = g x) → l.filterMap f = l.filterMap g
  | [], _ => rfl
  | x :: l, h => by
    rw [List.filterMap_cons, List.filterMap_cons, h x List.mem_cons_self, fm_on fun y hy => h y (List.mem_cons_of_mem _ hy)]
theorem back_pick (xs : Array Value) : ((List.range xs.size).filterMap fun (m : Nat) => xs[(((xs.size : Nat) : Int) - 1 + (m : Int) * -1).toNat]?) = xs.toList.reverse := by
  have g : ((List.range xs.size).filterMap fun (m : Nat) => xs[(((xs.size : Nat) : Int) - 1 + (m : Int) * -1).toNat]?) = ((List.range xs.size).map fun m => xs.size - 1 - m).filterMap (fun m => xs[m]?) := by
    rw [List.filterMap_map]
    refine fm_on fun m hm => ?_
    have hm := List.mem_range.mp hm
    have e : (((xs.size : Nat) : Int) - 1 + (m : Int) * -1).toNat = xs.size - 1 - m := by omega
    show xs[(((xs.size : Nat) : Int) - 1 + (m : Int) * -1).toNat]? = xs[xs.size - 1 - m]?
    rw [e]
  rw [g, PySem.W.krv_range, List.filterMap_reverse, PySem.W.krv_all]
theorem tuple_back {t sl : Addr} {items : Array Value} {tk : Tok} {Q : Value → Shared → Prop} (ht : PyProof.Rows.IsTup s.heap t items) (hs : s.heap.IsSliceOf sl .none .none (.int (-1) tk))
    (h : Q (.ref s.heap.objs.size) { s with heap := s.heap.push { cls := .type "tuple", data := .seq items.toList.reverse.toArray } }) (hsz : items.size ≤ sizeLine) : wpAny (model prog w) A (getItem (.ref t) (.ref sl)) Q E s := by
  have hz : sizeOk (.seq items.toList.reverse.toArray) := by
    show items.toList.reverse.toArray.size ≤ sizeLine
    rw [List.size_toArray, List.length_reverse, Array.length_toList]
    exact hsz
  obtain ⟨os, hos, hcs, hds⟩ := id hs
  have hTs : s.TypeIs (.ref sl) "slice" := ⟨os, hos, hcs⟩
  unfold getItem
  try with_reducible refine wpAny_holding ?_
  first | refine wpAny_bind (wpAny_pure ?_) | skip
  refine wpAny_bind (wpAny_sequenceKey ht.typeIs (by decide) (wpAny_bind (wpAny_callSpecial?_slot (name := Str.ofString "__getitem__") ht.typeIs PyProof.Rows.slot_tuple_getitem (wpAny_call_entry PyProof.Rows.slot_tuple_getitem ht.typeIs PyProof.Rows.entry_tuple_getitem ?_ (PyProof.Rows.args_tuple_getitem _ _)))))
  show wpAny _ _ (Builtin.Tuple.tupleItemsOf (.ref t) >>= _) _ _ s
  refine wpAny_bind (PyProof.Rows.tupleItemsOf_ ht (wpAny_bind (wpAny_typeOf hTs ?_)))
  rw [if_pos (by decide)]
  refine wpAny_bind (step_back hs ?_)
  have hno : ¬ ((((items.size : Nat) : Int) - 1 == 0 && (-1 : Int) == 1 && items.size == items.size) = true) := by simp
  show wpAny _ _ (if (((items.size : Nat) : Int) - 1 == 0 && (-1 : Int) == 1 && items.size == items.size) = true then _ else _) _ _ s
  rw [if_neg hno, back_pick]
  first
    | exact wpAny_bind (m := Builtin.Tuple.tupleExact _) (wpAny_newObj_type (wpAny_pure ⟨_, rfl, wpAny_pure h⟩) hz)
    | exact wpAny_bind (m := Builtin.Tuple.tupleExact _) (wpAny_newObj_type (wpAny_bind (wpAny_pure (wpAny_pure ⟨_, rfl, wpAny_pure h⟩))) hz)
    | exact wpAny_bind (wpAny_bind (m := Builtin.Tuple.tupleExact _) (wpAny_newObj_type (wpAny_pure (wpAny_pure ⟨_, rfl, wpAny_pure h⟩)) hz))
    | exact wpAny_bind (wpAny_bind (m := Builtin.Tuple.tupleExact _) (wpAny_newObj_type (wpAny_pure ⟨_, rfl, wpAny_pure h⟩) hz))
end
section
variable {X : Cx} {S : Type} {B : Bs} {Γ : S → List Sl} {K : PySem.W.Frag} {α : Type} {R : α → Pd} {e : Expr}
def tRevT (K : PySem.W.Frag) (te : TE) : TE := fun σ H Q => te σ H fun x H1 => ∃ a xs, x = .ref a ∧ SqT K H1 a xs ∧ ∀ p, H1 p = none → Q (.ref p) (upd H1 p (.tup xs.reverse))
theorem pe_revT {te : TE} {k : Nat} {p1 p2 p3 pos : Pos} (he : PE X e te) : PE X (.Subscript e (.Slice none none (some (.UnaryOp .USub (.Constant (.int 1) k p1) p2)) p3) pos) (tRevT X.K te) := by
  refine ⟨fun pins s σ H Q I h => ?_⟩
  refine PyProof.Rows.Subscript_ (thn (he.run pins s σ H _ I h) fun v s1 ⟨x, H1, I1, r1, a, xs, ex, hx, q⟩ => ?_)
  subst ex
  cases r1
  have hst : PO X (some (.UnaryOp .USub (.Constant (.int 1) k p1) p2)) (tPart (tUn (rU fun i => .int (-i)) (tC (.int 1)))) := po_some (pe_un un_neg pe_int)
  refine PySem.wpAny_Slice (thn (po_none.run pins s1 σ H1 (fun o H2 => o = none ∧ H2 = H1) I1 ⟨rfl, rfl⟩) fun vl s2 ⟨l, H2, I2, pl, el, e2⟩ => thn (po_none.run pins s2 σ H2 (fun o H3 => o = none ∧ H3 = H2) I2 ⟨rfl, rfl⟩) fun vu s3 ⟨u, H3, I3, pu, eu, e3⟩ => ?_)
  subst el e2 eu e3
  refine thn (hst.run pins s3 σ H3 (fun o H4 => o = some (-1) ∧ H4 = H3) I3 ⟨1, rfl, -1, rfl, rfl, rfl⟩) fun vs s4 ⟨o, H4, I4, pq, eo, e4⟩ => ?_
  subst eo e4
  cases pl; cases pu
  obtain ⟨i, tk, ei⟩ : ∃ (i : Int) (tk : Tok), vs = .int (-1) tk := by cases pq; exact ⟨0, _, rfl⟩
  subst ei
  have I5 : Inv X pins σ H4 { s4 with heap := s4.heap.push { cls := .type "slice", data := .fields #[.none, .none, .int (-1) tk] } } := I4.kept (t' := s4.toks) fun b ob q => Heap.get?_push_of_some _ q
  obtain ⟨its, r, ht, hz⟩ := I5.tuple hx
  have hlen := r.length
  show wpAny (model X.prog X.w) X.A (PyProof.Rows.subscriptTail e (.Slice none none (some (.UnaryOp .USub (.Constant (.int 1) k p1) p2)) p3) (.ref a) (.ref s4.heap.objs.size)) (EP X pins σ Q) X.xe _
  refine PyProof.Rows.tail_any (ops := [.ref a, .ref s4.heap.objs.size]) ht.typeIs (PyProof.Rows.slot_tuple_getitem.lookup) ?_ (by with_unfolding_all rfl)
  refine tuple_back ht (Heap.IsSliceOf.new _ _ _ _) ?_ (by rw [List.size_toArray]; omega)
  refine ⟨.ref _, _, I5.laid (t' := s4.toks) (o := .tup xs.reverse) (fun b ob q => Heap.get?_push_of_some _ q) (Nat.le_refl _) ?_, rfl, q _ (I5.hok.fresh (Nat.le_refl _))⟩
  exact ⟨by rw [List.length_reverse]; exact hz, _, r.reverse, PyProof.Rows.IsTup.new _ _⟩
theorem te_revT {ma : S → (List α → S → Prop) → Prop} {k1 p1 p2 p3 pos} (ha : PE X e (tE B Γ (RTup K R) ma)) (hK : X.K = K := by rfl) : PE X (.Subscript e (.Slice none none (some (.UnaryOp .USub (.Constant (.int 1) k1 p1) p2)) p3) pos) (tE B Γ (RTup K R) (fun s K => ma s fun xs s1 => K xs.reverse s1)) := by
  subst hK
  refine pe_imp (pe_revT ha) fun σ H Q ⟨s, F, K', A, hm, k⟩ => ⟨s, F, _, A, hm, fun xs s1 v F1 H1 h1 A1 e1 ⟨q, vs, ev, hq, av⟩ => ⟨q, vs, ev, seqT_mono A1.sub hq, fun p np => ?_⟩⟩
  obtain ⟨A2, e2⟩ := A1.lay (o := .tup vs.reverse) np
  exact k _ s1 _ _ _ h1 A2 (e1.trans e2) ⟨p, _, rfl, SqT.of upd_same, av.reverse.mono e2⟩
end

/-! ### {e for x in xs}, e an int -/
section
variable {X : Cx}
/-- the new set D, its members S, n of them -/
abbrev SetGo (w : World) (D : Addr) (S : Int → Bool) (n : Nat) (c : Int) : HO := SetO w D (fun j => S j || decide (j = c)) (if S c = true then n else n + 1)
def tScI (w : World) (wi : TI) (g : TG) (te : TE) (vs : List Nat) : TE := fun σ H Q => wi σ H fun J H1 => ∀ D, H1 D = none →
  ∃ W : Nat → Nat → Hp → Prop, (∃ m, W 0 m (upd H1 D (SetO w D (fun _ => false) 0))) ∧ ∀ i m H, W i m H → (J.stop i H ∧ Q (.ref D) H) ∨
    (J.go i H ∧ ∃ Nx : Hp → Prop, (∀ H', Nx H' → ∃ m', m' < m ∧ W (i + 1) m' H') ∧ ∀ x H', J.yld i H x H' → g x (wipe σ vs) H' fun σ2 H2 => wipe σ2 vs = wipe σ vs ∧
      te σ2 H2 fun y H4 => ∃ (c : Int) (S : Int → Bool) (n : Nat), y = .int c ∧ H4 D = some (SetO w D S n) ∧ n + 1 < scanBound ∧ Nx (upd H4 D (SetGo w D S n c)))
theorem addI_ok {pins : List (Addr × Obj)} {σ : L2.St} {H : Hp} {s : Shared} {E : Value → Shared → Prop} {D : Addr} {S : Int → Bool} {n : Nat} {c : Int} {tk : Tok} {Q : Value → Shared → Prop} (I : Inv X pins σ H s) (hD : H D = some (SetO X.w D S n)) (room : n + 1 < scanBound)
    (h : ∀ s', Inv X pins σ (upd H D (SetGo X.w D S n c)) s' → Q .none s') : wpAny (model X.prog X.w) X.A (call (.builtin "set.add") [.ref D, .int c tk]) Q E s := by
  refine setR_add (setO_get I hD) room fun h' sb new => ?_
  refine h _ (I.write (e := D) (t' := s.toks + 1) (by rw [hD]; trivial) (.inl rfl) (fun b u hb hu => (sb.2 b hb).trans hu) ?_ (setO_new new))
  obtain ⟨o, _, _, _, ho, _⟩ := id new
  exact ⟨o, ho⟩
theorem pe_scI {elt tg iter : Expr} {scope : Scope} {own : List (Str × Nat)} {pos : Pos} {wi : TI} {g : TG} {te : TE} (hc : X.calm = true) (hN : X.N.Nodup) (hi : PI X tg iter wi) (ok : BlkOk X.N X.env.scope scope own)
    (hg : ∀ (s : Shared) (H : Hp) (C : Addr) (cl : List (Str × Addr)) (fp : List Addr), PG (X.blk s H scope (compEnvC scope cl C X.env) fp) tg g)
    (he : ∀ (s : Shared) (H : Hp) (C : Addr) (cl : List (Str × Addr)) (fp : List Addr), PE (X.blk s H scope (compEnvC scope cl C X.env) fp) elt te) (hs : ∀ x, foldedSetIterable iter X.env x = pure x := by intro _; rfl) :
    PE X (.SetComp elt [⟨tg, iter, [], 0⟩] scope pos) (tScI X.w wi g te (own.map (·.2))) := by
  refine ⟨fun pins s σ H Q I h => ?_⟩
  rw [PpSet.eval_SetComp]
  have hfree : ∀ y ∈ scope.names, y.2 = .free → ∃ c, X.env.cells.lookup y.1 = some c := fun y hy e => (ok.free y hy e).elim (fun k => I.ok.has _ (.inl k)) fun k => I.ok.has _ (.inr k)
  refine PySem.wpAny_comprehension_free (use := none) rfl hs (closure_ok hfree) ok.kind (fun y hy e => by rw [ok.uniq y hy, e]) (thn (hi.run pins s σ H _ I h) fun xv s1 hx => thn hx fun itv s2 ⟨it, fp, tn, J, H2, e, I2, T, st2, f2, q⟩ => ?_)
  subst e
  refine PpSet.newSet_ok (newEnv_comp ?_)
  generalize hD : s2.heap.objs.size = D
  have hDn : H2 D = none := I2.hok.fresh (Nat.le_of_eq hD)
  obtain ⟨W, ⟨m0, w0⟩, turn⟩ := q D hDn
  generalize hs3 : ({ s2 with heap := s2.heap.push { cls := .type "set", dict := none, data := .set #[] 0 (.fresh 0 0 (!X.w.params.followText "set-order")) } } : Shared) = s3
  have h3 : s3.heap = s2.heap.push { cls := .type "set", dict := none, data := .set #[] 0 (.fresh 0 0 (!X.w.params.followText "set-order")) } := by rw [← hs3]
  have I3 : Inv X pins σ (upd H2 D (SetO X.w D (fun _ => false) 0)) s3 := by
    rw [← hs3]
    refine I2.laid (t' := s2.toks) (fun b o e => Heap.get?_push_of_some _ e) (Nat.le_of_eq hD) ?_
    rw [← hD]
    exact setO_new (setR_fresh X.w)
  have lt : ∀ b ∈ fp, b < s2.heap.objs.size := fun b hb => (T.obj _ _ st2 b hb).elim fun o z => Heap.lt_size z.1
  have f3 : ∀ b ∈ fp, FpOk X pins (upd H2 D (SetO X.w D (fun _ => false) 0)) b ∧ b < s3.heap.objs.size := fun b hb =>
    ⟨⟨(upd_ne (by rw [← hD]; exact Nat.ne_of_lt (lt b hb))).trans (f2 b hb).1, (f2 b hb).2⟩, by rw [h3, Heap.size_push]; exact Nat.lt_succ_of_lt (lt b hb)⟩
  have st3 : tn 0 s3.heap := T.keep _ _ _ st2 fun b _ o e => by rw [h3]; exact Heap.get?_push_of_some _ e
  have I4 := block_start I3 ok hN f3
  generalize hcl : cellsFrom (s3.heap.objs.size + 1) scope.names (cloFrom X.env.cells scope.names []) = cl at I4
  have pg := hg s3 (upd H2 D (SetO X.w D (fun _ => false) 0)) s3.heap.objs.size cl fp
  have pe := he s3 (upd H2 D (SetO X.w D (fun _ => false) 0)) s3.heap.objs.size cl fp
  have nfp : ∀ b ∈ fp, (upd H2 D (SetO X.w D (fun _ => false) 0)) b = none := fun b hb => (f3 b hb).1.1
  show codeAny _ _ (.compStart (.SetComp elt [⟨tg, iter, [], 0⟩] scope pos) 0 (.ref it) (.ref D) (compEnvC scope cl s3.heap.objs.size X.env)) (compPost (model X.prog X.w) X.A X.xe none (EP X pins σ Q) (.ref D) s3.heap.objs.size) { s3 with heap := pushCells (s3.heap.push { cls := .type "dict", data := .dict #[] }) scope.names }
  generalize hce : compEnvC scope cl s3.heap.objs.size X.env = ce at I4 pg pe ⊢
  have cL : ce.locals = s3.heap.objs.size := by subst hce; rfl
  generalize hH3 : upd H2 D (SetO X.w D (fun _ => false) 0) = H3 at I3 I4 pg pe w0 nfp f3
  generalize hs4 : ({ s3 with heap := pushCells (s3.heap.push { cls := .type "dict", data := .dict #[] }) scope.names } : Shared) = s4 at I4 ⊢
  have st4 : tn 0 s4.heap := T.keep _ _ _ st3 fun b _ o e => by rw [← hs4]; exact pushCells_keeps _ _ _ _ (Heap.get?_push_of_some _ e)
  have stat : ∀ {σ' : L2.St} {H' : Hp} {s' : Shared}, Inv (X.blk s3 H3 scope ce fp) [] σ' H' s' → (∀ b ∈ fp, H' b = none) → ∀ b ∈ fp, FpOk (X.blk s3 H3 scope ce fp) [] H' b := fun {σ' H' s'} I' hn b hb =>
    ⟨hn b hb, (I'.ok.exf b hb).1, I'.ok.exfs b hb, .inl hb, fun x c e => (I'.ok.exf b hb).2 x c e, fun p hp => by cases (show p ∈ ([] : List (Addr × Obj)) from hp)⟩
  refine PpSet.codeAny_compStart_set ?loop (T.self X.A 0 _ _ _ st4 ?loop)
  refine PpSet.compLoopS_any (fun n s' => ∃ i H', Inv (X.blk s3 H3 scope ce fp) [] (wipe σ (own.map (·.2))) H' s' ∧ tn i s'.heap ∧ (∀ b ∈ fp, H' b = none) ∧ W i n H') ?_ m0 ⟨0, H3, I4, st4, nfp, w0⟩
  rintro n s5 ⟨i, H5, I5, st5, n5, w5⟩
  rcases turn i n H5 w5 with ⟨stop, qq⟩ | ⟨go, Nx, hNx, step⟩
  · refine thnF (T.done (X.blk s3 H3 scope ce fp) rfl rfl rfl hc i [] s5 _ H5 (fun _ _ => False) I5 (stat I5 n5) st5 stop) fun r s6 ⟨hr, I6⟩ => ?_
    subst hr
    have I7 : Inv X pins σ H5 s6 := I3.call' (ch := fp) I6.os I6.base I6.hok I6.bare fun b hb => ⟨(f3 b hb).1.2.2.2.1, (f3 b hb).1.2.1, (f3 b hb).1.2.2.2.2.1, (f3 b hb).1.2.2.2.2.2⟩
    have nC : H5 s3.heap.objs.size = none := cL ▸ (show H5 ce.locals = none from I6.free)
    obtain ⟨m, hn, _⟩ := I6.loc
    have hn : s6.heap.Ns s3.heap.objs.size m := cL ▸ (show s6.heap.Ns ce.locals m from hn)
    obtain ⟨g0, g1, g2, g3, g4, g5⟩ := I3.fpOk (H' := H5) (Nat.le_refl _) nC
    exact ⟨m, hn, fun h'' sb => ⟨.ref D, H5, I7.turned (t' := s6.toks) (fun b o hb e => (sb.2 b hb).trans e) g0 g1 g3 g4 g5, rfl, qq⟩⟩
  · refine thnF (T.item (X.blk s3 H3 scope ce fp) rfl rfl rfl hc i [] s5 _ H5 (fun _ _ => False) I5 (stat I5 n5) st5 go) fun r s6 ⟨u, hr, h6⟩ => ?_
    subst hr
    refine thnF h6 fun _ s7 ⟨x, H7, I7, r7, y7, st7, n7⟩ => ?_
    refine thnF (pg.run _ s7 _ H7 x u _ (I7.pinned (stat I7 n7) (T.obj _ _ st7)) r7 (step x H7 y7)) fun _ s8 ⟨σ8, H8, I8, hw8, q8⟩ => ?_
    refine thnF ((pts_nil (X := X.blk s3 H3 scope ce fp)).run _ s8 σ8 H8 (fun b H' => b = true ∧ H' = H8) I8 ⟨rfl, rfl⟩) fun b s9 ⟨H9, I9, eb, e9⟩ => ?_
    subst eb e9
    simp only [if_true]
    refine thnF (pe.run _ s9 σ8 H9 _ I9 q8) fun z s10 ⟨yv, H10, I10, r10, c, S0, n0, ey, hD10, hz10, nx⟩ => ?_
    subst ey
    obtain ⟨tk, ez⟩ := (show ∃ tk, z = Value.int c tk from r10)
    subst ez
    refine addI_ok (X := X.blk s3 H3 scope ce fp) I10 hD10 hz10 fun s11 I11 => ?_
    obtain ⟨m', hm, w'⟩ := hNx _ nx
    have pin' : ∀ b ∈ fp, ∀ o, s7.heap.get? b = some o → s11.heap.get? b = some o ∧ (upd H10 D (SetGo X.w D S0 n0 c)) b = none := fun b hb o e =>
      let zz := I11.pin (b, o) (List.mem_append_right _ (List.mem_append_right _ (mem_pinsAt hb e)))
      ⟨zz.1, zz.2.1⟩
    refine ⟨m', hm, i + 1, _, (I11.unpinned (pins := [])).weak (by rw [← hw8, wipe_length]) (fun j v e => ?_), T.keep _ _ _ st7 fun b hb o e => (pin' b hb o e).1, fun b hb => ?_, w'⟩
    · rw [← hw8] at e
      exact (wipe_some e).1
    · obtain ⟨o, e, _⟩ := T.obj _ _ st7 b hb
      exact (pin' b hb o e).2
end
end TL
namespace TL
open PySem L2

/-! ### sets of ints, sorted -/
/-- one int into a rising list -/
def insU (c : Int) : List Int → List Int
  | [] => [c]
  | x :: xs => if c < x then c :: x :: xs else if c = x then x :: xs else x :: insU c xs
def sortU (ys : List Int) : List Int := ys.foldl (fun l c => insU c l) []
theorem insU_mem (c : Int) : ∀ (l : List Int) (k : Int), k ∈ insU c l ↔ k = c ∨ k ∈ l
  | [], k => by simp [insU]
  | x :: xs, k => by
    unfold insU
    split
    · simp [List.mem_cons]
    · split
      · rename_i h; subst h; simp [List.mem_cons]
      · rw [List.mem_cons, insU_mem c xs k, List.mem_cons]
        constructor
        · rintro (h | h | h)
          · exact .inr (.inl h)
          · exact .inl h
          · exact .inr (.inr h)
        · rintro (h | h | h)
          · exact .inr (.inl h)
          · exact .inl h
          · exact .inr (.inr h)
theorem insU_up (c : Int) : ∀ {l : List Int}, l.Pairwise (· < ·) → (insU c l).Pairwise (· < ·)
  | [], _ => by simp [insU]
  | x :: xs, h => by
    obtain ⟨h1, h2⟩ := List.pairwise_cons.mp h
    unfold insU
    split
    · rename_i hc
      refine List.pairwise_cons.mpr ⟨fun y hy => ?_, h⟩
      rcases List.mem_cons.mp hy with e | e
      · subst e; exact hc
      · exact Int.lt_trans hc (h1 y e)
    · split
      · exact h
      · rename_i hc hn
        refine List.pairwise_cons.mpr ⟨fun y hy => ?_, insU_up c h2⟩
        rcases (insU_mem c xs y).mp hy with e | e
        · subst e; omega
        · exact h1 y e
theorem insU_len (c : Int) : ∀ {l : List Int}, l.Pairwise (· < ·) → (insU c l).length = if c ∈ l then l.length else l.length + 1
  | [], _ => by simp [insU]
  | x :: xs, h => by
    obtain ⟨h1, h2⟩ := List.pairwise_cons.mp h
    unfold insU
    split
    · rename_i hc
      rw [if_neg]
      · rfl
      · intro hm
        rcases List.mem_cons.mp hm with e | e
        · omega
        · have := h1 c e; omega
    · split
      · rename_i hc hn
        subst hn
        rw [if_pos List.mem_cons_self]
      · rename_i hc hn
        rw [List.length_cons, insU_len c h2]
        by_cases hm : c ∈ xs
        · rw [if_pos hm, if_pos (List.mem_cons_of_mem _ hm), List.length_cons]
        · rw [if_neg hm, if_neg (by
            intro z
            rcases List.mem_cons.mp z with e | e
            · exact hn e
            · exact hm e), List.length_cons]
theorem sortU_snoc (ys : List Int) (c : Int) : sortU (ys ++ [c]) = insU c (sortU ys) := by
  unfold sortU
  rw [List.foldl_append]
  rfl
theorem foldU_up : ∀ (ys l : List Int), l.Pairwise (· < ·) → (ys.foldl (fun l c => insU c l) l).Pairwise (· < ·)
  | [], _, h => h
  | y :: ys, l, h => foldU_up ys _ (insU_up y h)
theorem sortU_up (ys : List Int) : (sortU ys).Pairwise (· < ·) := foldU_up ys [] List.Pairwise.nil
theorem foldU_mem : ∀ (ys l : List Int) (k : Int), k ∈ ys.foldl (fun l c => insU c l) l ↔ k ∈ ys ∨ k ∈ l
  | [], l, k => by simp
  | y :: ys, l, k => by
    rw [List.foldl_cons, foldU_mem ys, insU_mem, List.mem_cons]
    constructor
    · rintro (h | h | h)
      · exact .inl (.inr h)
      · exact .inl (.inl h)
      · exact .inr h
    · rintro ((h | h) | h)
      · exact .inr (.inl h)
      · exact .inl h
      · exact .inr (.inr h)
theorem sortU_mem (ys : List Int) (k : Int) : k ∈ sortU ys ↔ k ∈ ys := by
  unfold sortU
  rw [foldU_mem]
  simp
theorem up_unique : ∀ {l l' : List Int}, l.Pairwise (· < ·) → l'.Pairwise (· < ·) → (∀ k, k ∈ l ↔ k ∈ l') → l = l'
  | [], [], _, _, _ => rfl
  | [], y :: _, _, _, h => by have := (h y).mpr List.mem_cons_self; simp at this
  | x :: _, [], _, _, h => by have := (h x).mp List.mem_cons_self; simp at this
  | x :: xs, y :: ys, h1, h2, h => by
    obtain ⟨a1, a2⟩ := List.pairwise_cons.mp h1
    obtain ⟨b1, b2⟩ := List.pairwise_cons.mp h2
    have e : x = y := by
      rcases List.mem_cons.mp ((h x).mp List.mem_cons_self) with z | z
      · exact z
      · rcases List.mem_cons.mp ((h y).mpr List.mem_cons_self) with z' | z'
        · exact z'.symm
        · have := b1 x z; have := a1 y z'; omega
    subst e
    congr 1
    refine up_unique a2 b2 fun k => ?_
    constructor
    · intro hk
      rcases List.mem_cons.mp ((h k).mp (List.mem_cons_of_mem _ hk)) with z | z
      · have := a1 k hk; omega
      · exact z
    · intro hk
      rcases List.mem_cons.mp ((h k).mpr (List.mem_cons_of_mem _ hk)) with z | z
      · have := b1 k hk; omega
      · exact z
def RSet (w : World) (ys : List Int) : Pd := ⟨fun v F => ∃ a S, v = .ref a ∧ F a = some (SetO w a S (sortU ys).length) ∧ ∀ k, S k = true ↔ k ∈ ys, fun _ _ _ e ⟨a, S, h1, h2, h3⟩ => ⟨a, S, h1, e _ _ h2, h3⟩⟩
section
variable {X : Cx} {S S' : Type} {B : Bs} {Γ : S → List Sl} {K : PySem.W.Frag} {α β : Type} {R Ra : α → Pd} {Rb : β → Pd} {e tg it elt : Expr} {pos p : Pos} {x : Str} {scope : Scope} {own : List (Str × Nat)} {g : TG} {js : List Nat} {up : List Sl → α → List Sl}
theorem sc_read {w : World} {vs : List Nat} (tgt : Tg g R js up) {Γp : S → List Sl} {mi : S → (List α → S → Prop) → Prop} {me : S → α → (Int → Prop) → Prop} (hp : ∀ s, Pur (Γ s) (Γp s)) (hj : ∀ j ∈ js, j ∈ vs) (hv : ∀ s, ∀ i ∈ vs, (Γp s)[i]? = some .any ∨ (Γp s)[i]? = none) {σ : L2.St} {H : Hp} {Q : VK}
    (q : tE B Γ (RSet w) (fun s K => mi s fun xs s1 => xs.length ≤ 4000 ∧ mMap xs (me s1) fun ys => K ys s1) σ H Q) :
    tScI w (tI B Γ R mi) g (fun σ H Q => ∃ i : S × α × Bs, tE i.2.2 (fun _ : Unit => up (Γp i.1) i.2.1) RInt (fun _ K => me i.1 i.2.1 fun y => K y ()) σ H Q) vs σ H Q := by
  obtain ⟨s, F, K', A, hm, k⟩ := q
  refine ⟨s, F, _, A, hm, fun xs s1 J F1 H1 ⟨hz, h1⟩ A1 e1 src => ?_⟩
  intro D hD
  have bD := A1.beside hD
  refine ⟨fun i mm H' => ∃ Fi Sm ys, mm = xs.length - i ∧ i ≤ xs.length ∧ Same F1 Fi ∧ At B (Γ s1) σ Fi H' ∧ H' D = some (SetO w D Sm (sortU ys).length) ∧ Fi D = none ∧ (∀ k, Sm k = true ↔ k ∈ ys) ∧ ys.length = i ∧ mMap (xs.drop i) (me s1) fun zs => K' (ys ++ zs) s1, ?_, ?_⟩
  · refine ⟨xs.length, F1, fun _ => false, [], by simp, Nat.zero_le _, Same.refl _, A1.layH hD, upd_same, bD.1, by simp, rfl, ?_⟩
    simpa using h1
  · rintro i mm H' ⟨Fi, Sm, ys, rfl, hi, eF, Ai, hDi, fDi, hS, hyl, hk⟩
    obtain ⟨s1', s2', s3'⟩ := src Fi H' eF Ai.sub
    by_cases hlt : i < xs.length
    · refine .inr ⟨s2' i hlt, fun H'' => ∃ Fi Sm ys, i + 1 ≤ xs.length ∧ Same F1 Fi ∧ At B (Γ s1) σ Fi H'' ∧ H'' D = some (SetO w D Sm (sortU ys).length) ∧ Fi D = none ∧ (∀ k, Sm k = true ↔ k ∈ ys) ∧ ys.length = i + 1 ∧ mMap (xs.drop (i + 1)) (me s1) fun zs => K' (ys ++ zs) s1, fun H'' ⟨F3, S3, y3, q1, q2, q3, q4, q5, q6, q7, q8⟩ => ⟨xs.length - (i + 1), by omega, F3, S3, y3, rfl, q1, q2, q3, q4, q5, q6, q7, q8⟩, fun v H2 hy => ?_⟩
      obtain ⟨F2, f1, f2, f3, f4, f5⟩ := s3' i xs[i] v H2 (List.getElem?_eq_getElem hlt) hy
      have A2 := Ai.grow f1 f2 f3 f4
      have hD2 := f2 _ _ hDi
      have fD2 : F2 D = none := f4.no fDi hDi
      rw [List.drop_eq_getElem_cons hlt] at hk
      obtain ⟨pf, po⟩ := fits_pure (F' := F2) (H' := H2) (σ' := wipe σ vs) vs (hp s1) A2.fit (fun i hi => wipe_out hi) (wipe_length σ vs) (hv s1)
      have A3 : At ⟨F2, H2, fun _ => False, []⟩ (Γp s1) (wipe σ vs) F2 H2 := ⟨A2.sub, Same.refl _, fun a o e _ => e, fun a o e => .inl e, pf, by rw [po]; exact List.Pairwise.nil, fun a hb => hb.elim, fun _ z => nomatch z⟩
      refine tgt.run A3 f5 fun σ' A4 hw => ?_
      refine ⟨by rw [hw vs hj, wipe_wipe fun _ z => z], ⟨s1, xs[i], ⟨F2, H2, fun _ => False, []⟩⟩, (), F2, fun y (_ : Unit) => mMap (xs.drop (i + 1)) (me s1) fun zs => K' (ys ++ (y :: zs)) s1, A4, hk, fun y _ u F6 H6 h6 A6 e6 r6 => ?_⟩
      have sH : Same H2 H6 := fun a o e => A6.kept a o e id
      have nw : Nw F2 H2 F6 := fun a o e => A6.new a o e
      have B6 := A2.grow A6.ext sH A6.sub nw
      have hD6 := sH _ _ hD2
      have r6 : u = .int y := r6
      subst r6
      have hl : (sortU ys).length ≤ ys.length := by
        have go : ∀ zs l : List Int, (zs.foldl (fun l c => insU c l) l).length ≤ zs.length + l.length := by
          intro zs
          induction zs with
          | nil => intro l; simp
          | cons z zs ih =>
            intro l
            have h2 : (insU z l).length ≤ l.length + 1 := by
              induction l with
              | nil => simp [insU]
              | cons q l ihl => unfold insU; split <;> (try split) <;> simp at * <;> omega
            have := ih (insU z l)
            rw [List.foldl_cons, List.length_cons]
            omega
        have := go ys []
        simpa [sortU] using this
      refine ⟨y, Sm, _, rfl, hD6, by have : scanBound = 4096 := rfl; omega, F6, fun j => Sm j || decide (j = y), ys ++ [y], hlt, (eF.trans f1).trans e6, B6.poke hD6 (nw.no fD2 hD2) bD.2.1 bD.2.2, ?_, nw.no fD2 hD2, fun k => ?_, by rw [List.length_append, List.length_singleton, hyl], by simpa using h6⟩
      · rw [upd_same, sortU_snoc, insU_len y (sortU_up ys)]
        show some (SetO w D (fun j => Sm j || decide (j = y)) (if Sm y = true then (sortU ys).length else (sortU ys).length + 1)) = _
        by_cases hm : y ∈ sortU ys
        · have hS' : Sm y = true := (hS y).mpr ((sortU_mem ys y).mp hm)
          rw [if_pos hm, if_pos hS']
        · have hS' : ¬ Sm y = true := fun z => hm ((sortU_mem ys y).mpr ((hS y).mp z))
          rw [if_neg hm, if_neg hS']
      · rw [Bool.or_eq_true, decide_eq_true_eq, hS k, List.mem_append, List.mem_singleton]
    · have e : i = xs.length := by omega
      subst e
      refine .inl ⟨s1' _ (Nat.le_refl _), ?_⟩
      rw [List.drop_length] at hk
      have hk : K' (ys ++ []) s1 := hk
      rw [List.append_nil] at hk
      obtain ⟨A5, e5⟩ := Ai.know fDi hDi bD.2.1 bD.2.2
      exact k ys s1 _ _ H' hk A5 ((e1.trans eF).trans e5) ⟨D, Sm, rfl, upd_same, hS⟩
theorem te_setI {mi : S → (List α → S → Prop) → Prop} {me : S → α → Unit → (Int → Unit → Prop) → Prop} (nd : X.N.Nodup) (hi : PI X tg it (tI B Γ R mi)) (ok : BlkOk X.N X.env.scope scope own)
    (hg : ∀ (s : Shared) (H : Hp) (C : Addr) (cl : List (Str × Addr)) (fp : List Addr), PG (X.blk s H scope (compEnvC scope cl C X.env) fp) tg g) (tgt : Tg g R js up)
    (he : ∀ (s1 : S) (x : α) (B' : Bs) (s : Shared) (H : Hp) (C : Addr) (cl : List (Str × Addr)) (fp : List Addr), PE (X.blk s H scope (compEnvC scope cl C X.env) fp) elt (tE B' (fun _ : Unit => up (pureFrom (own.map (·.2)) 0 (Γ s1)) x) RInt (me s1 x)))
    (hj : ∀ j ∈ js, j ∈ own.map (·.2) := by decide) (hc : X.calm = true := by rfl) (hs : ∀ x, foldedSetIterable it X.env x = pure x := by intro _; rfl) :
    PE X (.SetComp elt [⟨tg, it, [], 0⟩] scope pos) (tE B Γ (RSet X.w) (fun s K => mi s fun xs s1 => xs.length ≤ 4000 ∧ mMap xs (fun x K => me s1 x () fun y _ => K y) fun ys => K ys s1)) :=
  pe_imp (pe_scI hc nd hi ok hg (fun s H C cl fp => pe_ex fun i : S × α × Bs => he i.1 i.2.1 i.2.2 s H C cl fp) hs)
    fun σ H Q q => sc_read (me := fun s1 x K => me s1 x () fun y _ => K y) tgt (fun s => pur_pure _ 0 _) hj (fun s i hi => pure_any _ 0 _ i (by simpa using hi)) q
theorem tn_sortedSet {ma : S → (List Int → S → Prop) → Prop} (P : BP X "sorted" (.builtin "sorted")) (ha : PE X e (tE B Γ (RSet X.w) ma)) (hc : X.calm = true := by rfl) (hs : starEach [e] X.env = (false, eval e X.env) :: starEach [] X.env := by rfl) (hpl : (backTo pos (starEach [] X.env)).any (·.1) = false := by rfl) :
    PE X (.Call (.Name "sorted" p) [e] [] pos) (tN B Γ RInt (fun s K => ma s fun y s1 => (sortU y).length < 64 ∧ K (sortU y) s1)) :=
  pe_imp (pe_bf P (cr_sortedSet hc) (pa_cons ha pa_nil hs) hs hpl) fun σ H Q ⟨s, F, K', A, hm, k⟩ => ⟨s, F, _, A, hm, fun y s1 v F1 H1 ⟨hz, h1⟩ A1 e1 ⟨q, Sm, ev, hq, hS⟩ => ⟨q, Sm, _, by rw [ev], A1.sub _ _ hq, hz, fun ns p hup hns hl np => by
    have e : ns = sortU y := up_unique hup (sortU_up y) fun k => by rw [hns k, hS k, sortU_mem]
    subst e
    have fr := A1.fresh np
    exact k _ s1 p _ F1 _ h1 (A1.layH np) e1 upd_same fr.1 fr.2 (A1.notOwn np) (AllR.ints.mpr rfl)⟩⟩
end

/-! ### instances by their attributes -/
def FOk : List (Str × Pd) → List (Str × V) → Hp → Prop
  | [], [], _ => True
  | (n, P) :: fl, (n', v) :: fs, F => n' = n ∧ P.p v F ∧ FOk fl fs F
  | _, _, _ => False
theorem FOk.mono {F F' : Hp} (e : Same F F') : ∀ {fl : List (Str × Pd)} {fs : List (Str × V)}, FOk fl fs F → FOk fl fs F'
  | [], [], _ => trivial
  | (_, P) :: _, (_, _) :: _, ⟨h1, h2, h3⟩ => ⟨h1, P.mono _ _ _ e h2, FOk.mono e h3⟩
theorem FOk.some {F : Hp} {n : Str} {P : Pd} : ∀ {fl : List (Str × Pd)} {fs : List (Str × V)}, FOk fl fs F → fl.lookup n = some P → ∃ v, fs.lookup n = some v ∧ P.p v F
  | [], [], _, h => by simp at h
  | (m, P') :: fl, (m', v) :: fs, ⟨h1, h2, h3⟩, h => by
    subst h1
    rw [List.lookup_cons] at h ⊢
    cases q : n == m' with
    | true => rw [q] at h; cases h; exact ⟨v, rfl, h2⟩
    | false => rw [q] at h; exact FOk.some h3 h
theorem FOk.none {F : Hp} {n : Str} : ∀ {fl : List (Str × Pd)} {fs : List (Str × V)}, FOk fl fs F → fl.lookup n = none → fs.lookup n = none
  | [], [], _, _ => rfl
  | (m, P') :: fl, (m', v) :: fs, ⟨h1, h2, h3⟩, h => by
    subst h1
    rw [List.lookup_cons] at h ⊢
    cases q : n == m' with
    | true => rw [q] at h; cases h
    | false => rw [q] at h; exact FOk.none h3 h
theorem FOk.len {F : Hp} : ∀ {fl : List (Str × Pd)} {fs : List (Str × V)}, FOk fl fs F → fs.length = fl.length
  | [], [], _ => rfl
  | _ :: _, _ :: _, ⟨_, _, h⟩ => by simp [FOk.len h]
theorem FOk.put {F : Hp} {n : Str} {P : Pd} {v : V} (hv : P.p v F) : ∀ {fl : List (Str × Pd)} {fs : List (Str × V)}, FOk fl fs F → fl.lookup n = Option.none → FOk (fl ++ [(n, P)]) (putF n v fs) F
  | [], [], _, _ => ⟨rfl, hv, trivial⟩
  | (m, P') :: fl, (m', u) :: fs, ⟨h1, h2, h3⟩, h => by
    subst h1
    rw [List.lookup_cons] at h
    cases q : n == m' with
    | true => rw [q] at h; cases h
    | false =>
      rw [q] at h
      have hn : ¬ m' = n := fun z => by subst z; simp at q
      show FOk ((m', P') :: (fl ++ [(n, P)])) (if m' = n then (m', v) :: fs else (m', u) :: putF n v fs) F
      rw [if_neg hn]
      exact ⟨rfl, h2, FOk.put hv h3 h⟩
def RIns (C : Addr) (fl : List (Str × Pd)) : Pd := ⟨fun v F => ∃ a dx fs, v = .ref a ∧ F a = some (.ins C dx fs) ∧ FOk fl fs F, fun _ _ _ e ⟨a, dx, fs, h1, h2, h3⟩ => ⟨a, dx, fs, h1, e _ _ h2, h3.mono e⟩⟩
def OIns (C : Addr) (fl : List (Str × Pd)) : Od := ⟨fun o F => ∃ dx fs, o = .ins C dx fs ∧ FOk fl fs F, fun _ _ _ e ⟨dx, fs, h1, h2⟩ => ⟨dx, fs, h1, h2.mono e⟩⟩
section
variable {α β : Type} {C : Addr} {fl : α → List (Str × Pd)} {mn : Str}
theorem insR (h : ∀ x, (fl x).lookup mn = none) : InsR (fun x => RIns C (fl x)) C mn := fun x v F ⟨a, dx, fs, h1, h2, h3⟩ => ⟨a, dx, fs, h1, h2, h3.none (h x)⟩
theorem isI : IsI (fun x => RIns C (fl x)) C := fun x v F ⟨a, dx, fs, h1, h2, h3⟩ => ⟨a, dx, fs, h1, h2⟩
theorem fldR {Rb : β → Pd} {get : α → β} (h : ∀ x, (fl x).lookup mn = some (Rb (get x))) : FldR (fun x => RIns C (fl x)) C mn Rb get := fun x v F ⟨a, dx, fs, h1, h2, h3⟩ => by
  obtain ⟨w, h4, h5⟩ := h3.some (h x)
  exact ⟨a, dx, fs, w, h1, h2, h4, h5⟩
end
/-- the end of an __init__ -/
def xI {α : Type} (B : Bs) (C a : Addr) (fl : α → List (Str × Pd)) (Kf : α → Prop) : Xt := { nx := fun _ F H => ∃ r o, Kf r ∧ Fin B F H ∧ F a = none ∧ H a = some o ∧ (OIns C (fl r)).p o F, rt := fun _ _ _ => False }
section
variable {X : Cx} {S S' T : Type} {B : Bs} {Γ : S → List Sl} {K : PySem.W.Frag} {α β : Type} {R : α → Pd} {e : Expr} {pos p p' : Pos} {xn fn : Str} {P : Xt} {rest : List Stmt} {C a : Addr} {m : S → (α → S → Prop) → Prop}
/-- self.f = e in an __init__ -/
theorem ts_self {mr : α → S → Prop} {i : Nat} {fl : S → List (Str × Pd)} (he : PE X e (tE B Γ R m)) (c : Cls X.K C) (hn : NoAttr X.K C fn) (hr : ∀ x, PSs X rest (tS B (fun s => (Γ s).set i (.bo a (OIns C (fl s ++ [(fn, R x)])))) P (mr x)))
    (hG : ∀ s, (Γ s)[i]? = some (.bo a (OIns C (fl s))) := by intro _; rfl) (hl : ∀ s, (fl s).lookup fn = none ∧ (fl s).length < 1000 := by intro _; exact ⟨by decide +kernel, by show _ < 1000; decide⟩) (hN : X.N[i]? = some xn := by rfl) (hv : Vis X.env.scope xn := by first | exact Or.inl rfl | exact Or.inr (Or.inl rfl) | exact Or.inr (Or.inr rfl)) (hd : (xn == ("__debug__" : Str)) = false := by decide) (hcd : (xn == ("__classdict__" : Str)) = false := by decide)
    (hs : swapsWith e (some (.Attribute (.Name xn p) fn p')) pos.line X.env = pure false := by rfl) :
    PSs X (.Assign [.Attribute (.Name xn p) fn p'] e pos :: rest) (tS B Γ P (fun s => m s fun x s1 => mr x s1)) :=
  pss_imp (pss_cons (ps_fld (pe_var hN hv hd hcd) he hs) (pss_ex hr)) fun D σ H ⟨s, F, A, hm, L⟩ => ⟨s, F, _, A, hm, fun x s1 v F1 H1 h1 A1 e1 r1 => by
    obtain ⟨o, h2, h3, h4, ⟨dx, fs, ho, hf⟩, h5⟩ := A1.bo (hG s1)
    subst ho
    obtain ⟨l1, l2⟩ := hl s1
    refine ⟨_, h2, a, C, dx, fs, rfl, h4, c, hn, by rw [hf.len]; exact l2, x, s1, F1, A1.writeB (hG s1) ⟨dx, _, rfl, hf.put r1 l1⟩, h1, L⟩⟩
/-- self.f in an __init__ -/
theorem te_self {i : Nat} {fl : S → List (Str × Pd)} {f : S → α} (c : Cls X.K C) (hn : NoAttr X.K C fn) (hG : ∀ s, (Γ s)[i]? = some (.bo a (OIns C (fl s)))) (hl : ∀ s, (fl s).lookup fn = some (R (f s))) (hN : X.N[i]? = some xn := by rfl) (hv : Vis X.env.scope xn := by first | exact Or.inl rfl | exact Or.inr (Or.inl rfl) | exact Or.inr (Or.inr rfl)) (hd : (xn == ("__debug__" : Str)) = false := by decide) (hcd : (xn == ("__classdict__" : Str)) = false := by decide)
    (hb : attributeBase (.Name xn p) fn X.env (eval (.Name xn p) X.env) = eval (.Name xn p) X.env := by rfl) : PE X (.Attribute (.Name xn p) fn pos) (tE B Γ R (fun s K => K (f s) s)) :=
  pe_imp (pe_fld (pe_var hN hv hd hcd) hb) fun σ H Q ⟨s, F, K', A, hm, k⟩ => by
    obtain ⟨o, h2, h3, h4, ⟨dx, fs, ho, hf⟩, h5⟩ := A.bo (hG s)
    subst ho
    obtain ⟨w, g1, g2⟩ := hf.some (hl s)
    exact ⟨_, h2, a, C, dx, fs, w, rfl, h4, c, hn, g1, k _ s w F H hm A (Same.refl F) g2⟩
theorem ts_selfEnd {Kf : β → Prop} {i : Nat} {fl : S → List (Str × Pd)} {flr : β → List (Str × Pd)} (r : S → β) (hG : ∀ s, (Γ s)[i]? = some (.bo a (OIns C (fl s)))) (hf : ∀ s, fl s = flr (r s)) (hP : P.nx = (xI B C a flr Kf).nx := by rfl) : PSs X [] (tS B Γ P (fun s => Kf (r s))) :=
  pss_imp pss_nil fun D σ H ⟨s, F, A, hm, L⟩ => L.nx σ F H (by
    obtain ⟨o, h2, h3, h4, ho, h5⟩ := A.bo (hG s)
    rw [hP]
    exact ⟨r s, o, hm, A.fin, h3, h4, by rw [← hf]; exact ho⟩)
end
section
variable {P : Program} {w : World} {K : PySem.W.Frag} {mg : Str → Option Value} {base : Heap} {xq qual : Str} {st : Stmt} {f C : Addr} {fd : FuncData} {N ps : List Str} {k : Nat} {ι α : Type} {As : ι → List Pd} {fl : α → List (Str × Pd)}
theorem fnI {mf : ι → (α → Prop) → Prop} (F : Fun K xq qual st f fd) (Sc : FnScope N ps (defScope st)) (hl : ∀ y, (As y).length + 1 = ps.length)
    (hb : ∀ (cdv : Value) (A : Around) (outer : List Env) (s : Shared) (H : Hp) (E : XK), Room k (A.deeper (PyProof.Rows.envOfC qual (defScope st) s.heap.objs.size f cdv)) → ∀ (a : Addr) (y : ι) (Kf : α → Prop) (B : Bs),
      PSs (cxOf CX0 P w K mg base N qual (defScope st) f cdv A outer s H E).nox (defBody st) (tS B (fun _ : Unit => .bo a (OIns C []) :: ((As y).map .im ++ List.replicate (N.length - (As y).length - 1) .any)) (xI B C a fl Kf) (fun _ => mf y Kf))) : FnOk P w K mg base CX0 (k + 1) f fd ps (spI C As (fun r => RIns C (fl r)) mf) := by
  refine F.ok Sc (fun vs H Q E ⟨y, F, K', a, dx, ws, h1, h2, _⟩ => by rw [h1, List.length_cons, h2.len, hl]) fun cdv A outer s H vs Q E hr ⟨y, F0, K', a, dx, ws, h0, h1, h2, hj1, hj2, hj3, hj4, hj5, h3, h4⟩ => ⟨_, hb cdv A outer s H E hr a y K' ⟨F0, H, fun b => b = a, []⟩, (), F0, ?_, h3, ?_⟩
  · subst h0
    have hN : (As y).length + 1 ≤ N.length := by
      rw [hl]
      have := congrArg List.length Sc.pre
      rw [List.length_take] at this
      omega
    have hv : ws.length = (As y).length := h1.len
    obtain ⟨r1, r2⟩ := fits_start (B := ⟨F0, H, fun b => b = a, []⟩) (H := H) (N.length - (As y).length - 1) h1
    have es : L2.start N (.ref a :: ws) = some (.ref a) :: (ws.map some ++ List.replicate (N.length - (As y).length - 1) none) := by
      unfold L2.start
      rw [List.map_cons, List.cons_append, List.length_cons, hv, Nat.sub_add_eq]
    refine ⟨h2, Same.refl _, fun a o e _ => e, fun a o e => .inl e, ?_, ?_, fun b z => ?_, fun _ z => nomatch z⟩
    · rw [es]
      exact ⟨⟨_, rfl, hj1, hj4, ⟨dx, [], rfl, trivial⟩, rfl⟩, r1⟩
    · rw [es]
      show ([a] ++ owA _ _).Nodup
      rw [r2]
      simp
    · have z : b = a := z
      subst z
      exact ⟨hj1, ⟨_, hj4⟩, _, hj4⟩
  · refine ⟨fun σ F' H' ⟨r, o, q1, ⟨q3, q4, q5, q6⟩, q7, q8, ⟨dx', fs, q9, q10⟩⟩ => ?_, fun _ _ _ z => z.elim, fun _ _ _ z => z.elim, fun _ _ _ z => z.elim⟩
    have sF : Same F' (upd F' a o) := same_upd q7
    refine h4 r (upd F' a o) H' q1 ⟨a, dx', fs, rfl, by rw [upd_same, q9], q10.mono sF⟩ (q3.trans sF) (fun b u nb e => q5 b u e nb) (fun b u e => ?_) fun b u e => ?_
    · by_cases hb : b = a
      · subst hb; rw [upd_same] at e; cases e; exact q8
      · rw [upd_ne hb] at e; exact q4 _ _ e
    · by_cases hb : b = a
      · exact .inr (.inl hb)
      · rw [upd_ne hb] at e
        rcases q6 b u e with z | z
        · exact .inl z
        · exact .inr (.inr z)
end
end TL
namespace TL
open PySem L2
def memB {α : Type} [DecidableEq α] (x : α) (xs : List α) : Bool := decide (x ∈ xs)

section
variable {X : Cx} {S S' : Type} {B : Bs} {Γ : S → List Sl} {Γj : S' → List Sl} {K : PySem.W.Frag} {α β γ ι T : Type} {R Ra : α → Pd} {Rb : β → Pd} {e a b c : Expr} {es : List Expr} {pos p : Pos} {x xn : Str} {P : Xt} {st : Stmt} {rest : List Stmt} {k : Nat} {f : Addr} {fd : FuncData} {ps : List Str}
variable {m ma : S → (α → S → Prop) → Prop} {mb : S → (β → S → Prop) → Prop} {O : T → Od} {As : ι → List Pd} {mr : S → (ι → S → Prop) → Prop}

theorem dat_lst {d : α → PyData} {n : Nat} (h : Dat K R d n) : Dat K (RLst R) (fun xs => .list (xs.map d)) (n + 1) :=
  ⟨fun x v F ⟨a, vs, h1, h2, h3⟩ => by subst h1; exact .lst (SqL.of h2) (dpAll (fun x v => h.dp x v F) h3), fun x => canAll h.lay x, fun x y => eqvAll_iff h.inj x y, fun x => by
    show PyData.depthAll (x.map d) + 1 ≤ n + 1
    exact Nat.succ_le_succ (depAll h.dep x)⟩
theorem cr_in [DecidableEq α] {d : α → PyData} {n : Nat} (hK : X.K = K) (hu : X.A.units + 65 < cLine) (h : Dat K R d n) (hn : n ≤ 50 := by decide) : CR X .In R (RLst R) (fun x xs => memB x xs) := by
  show CR X .In R (RLst R) (fun x xs => decide (x ∈ xs))
  subst hK
  refine ⟨_, op_inD hu, OpU.g fun x xs v w F H Q hx hy e q => ?_⟩
  obtain ⟨a, vs, h1, h2, h3⟩ := hy
  subst h1
  refine ⟨d x, xs.map d, Dp.same e (h.dp _ _ _ hx), .lst (SqL.of (e _ _ h2)) (dpAllH rfl h e h3), h.sh (by omega) x, (dat_lst h).sh (by omega) xs, ?_⟩
  refine q _ ?_
  show V.bl _ = V.bl _
  congr 1
  induction xs with
  | nil => rfl
  | cons y ys ih =>
    have hh : List.any (List.map d (y :: ys)) (fun z => PyData.eqv z (d x)) = (PyData.eqv (d y) (d x) || List.any (List.map d ys) fun z => PyData.eqv z (d x)) := rfl
    rw [hh, h.eqv]
    cases vs with
    | nil => exact h3.elim
    | cons v' vs' =>
      have : List.any (List.map d ys) (fun z => PyData.eqv z (d x)) = decide (x ∈ ys) := by
        clear ih h2 q hh
        clear h3
        induction ys with
        | nil => rfl
        | cons z zs ih2 =>
          have h5 : List.any (List.map d (z :: zs)) (fun z => PyData.eqv z (d x)) = (PyData.eqv (d z) (d x) || List.any (List.map d zs) fun z => PyData.eqv z (d x)) := rfl
          rw [h5, h.eqv, ih2]
          by_cases e1 : z = x
          · subst e1; simp
          · by_cases e2 : x ∈ zs
            · simp [e1, e2]
            · have : ¬ x = z := fun q => e1 q.symm
              simp [e1, e2, this]
      rw [this]
      by_cases e1 : y = x
      · subst e1; simp
      · by_cases e2 : x ∈ ys
        · simp [e1, e2]
        · have : ¬ x = y := fun q => e1 q.symm
          simp [e1, e2, this]
theorem te_globI {i : Int} (h : ∃ t, X.mg x = some (.int i t)) (hg : Gl X x := by rfl) (hd : (x == ("__debug__" : Str)) = false := by decide) : PE X (.Name x pos) (tE B Γ RInt (fun s K => K i s)) := by
  obtain ⟨t, h⟩ := h
  exact te_glob (v := V.int i) hg h ⟨t, rfl⟩ (fun _ => rfl) hd
theorem te_globS {i : Str} (h : ∃ t, X.mg x = some (.str i t)) (hg : Gl X x := by rfl) (hd : (x == ("__debug__" : Str)) = false := by decide) : PE X (.Name x pos) (tE B Γ RStr (fun s K => K i s)) := by
  obtain ⟨t, h⟩ := h
  exact te_glob (v := V.str i) hg h ⟨t, rfl⟩ (fun _ => rfl) hd
/-- behind the last statement -/
theorem ts_fall {Kf : Unit → Prop} (hP : P.nx = (xP B RNon Kf).nx := by rfl) : PSs X [] (tS B Γ P (fun _ => Kf ())) :=
  pss_imp pss_nil fun D σ H ⟨s, F, A, hm, L⟩ => L.nx σ F H (by rw [hP]; exact ⟨(), hm, rfl, A.fin⟩)
theorem ts_fallB {Kf : Unit → T → Prop} {j : Addr} (i : Nat) (get : S → T) (hG : ∀ s, (Γ s)[i]? = some (.bo j (O (get s))) := by intro _; rfl) (hP : P.nx = (xB B j O RNon Kf).nx := by rfl) : PSs X [] (tS B Γ P (fun s => Kf () (get s))) :=
  pss_imp pss_nil fun D σ H ⟨s, F, A, hm, L⟩ => L.nx σ F H (by
    obtain ⟨o, _, h2, h3, h4, _⟩ := A.bo (hG s)
    rw [hP]
    exact ⟨(), get s, o, hm, rfl, A.fin, h2, h3, h4⟩)
/-- a, b = x, y -/
theorem ts_par {i j : Nat} {mr : α → β → S → Prop} (h : PS X st (tPar i j (tCons (tE B Γ Ra ma) (tCons (tE B Γ Rb mb) tNil)))) (hr : ∀ x y, PSs X rest (tS B (fun s => ((Γ s).set i (.im (Ra x))).set j (.im (Rb y))) P (mr x y))) :
    PSs X (st :: rest) (tS B Γ P (fun s => ma s fun x s1 => mb s1 fun y s2 => mr x y s2)) :=
  pss_imp (pss_cons h (pss_ex fun z : α × β => hr z.1 z.2)) fun D σ H ⟨s, F, A, hm, L⟩ => ⟨s, F, _, A, hm, fun x s1 v F1 H1 h1 A1 e1 r1 => ⟨s1, F1, _, A1, h1, fun y s2 w F2 H2 h2 A2 e2 r2 => ⟨v, w, rfl, (x, y), s2, F2, (A2.setIm ((Ra x).mono _ _ _ e2 r1)).setIm r2, h2, L⟩⟩⟩
/-- .. the second a new list, owned; the first, the second -/
theorem ts_parO {i j : Nat} {Γ' : α → S' → List Sl} {mk : S → List β → S'} {mr : α → S' → Prop} {mb : S → (List β → S → Prop) → Prop} (h : PS X st (tPar i j (tCons (tE B Γ Ra ma) (tCons (tN B Γ Rb mb) tNil)))) (hG : ∀ x s y, Γ' x (mk s y) = ((Γ s).set i (.im (Ra x))).set j (.ow (OList Rb y))) (hij : i ≠ j) (hr : ∀ x, PSs X rest (tS B (Γ' x) P (mr x))) :
    PSs X (st :: rest) (tS B Γ P (fun s => ma s fun x s1 => mb s1 fun y s2 => mr x (mk s2 y))) :=
  pss_imp (pss_cons h (pss_ex hr)) fun D σ H ⟨s, F, A, hm, L⟩ => ⟨s, F, _, A, hm, fun x s1 v F1 H1 h1 A1 e1 r1 => ⟨s1, F1, _, A1, h1, fun y s2 q vs F2 H2 h2 A2 e2 hq fq bq nq av => ⟨v, .ref q, rfl, x, mk s2 y, F2, by
    rw [hG]
    have A3 := A2.setIm (i := i) (P := Ra x) ((Ra x).mono _ _ _ e2 r1)
    refine A3.setOw fq hq bq (fun z => ?_) ⟨vs, rfl, av⟩
    rcases mem_owA_set z with z | z
    · simp [ownS] at z
    · exact nq z, h2, L⟩⟩⟩

/-! ### the lent thing is the caller's own -/
theorem call_o {mf : ι → T → (α → T → Prop) → Prop} {i : Nat} {get : S → T} {put : S → T → S} (hG : ∀ s, (Γ s)[i]? = some (.ow (O (get s)))) (hP : ∀ s t, Γ (put s t) = (Γ s).set i (.ow (O t))) {σ : L2.St} {H : Hp} {Q : VK} {E : XK}
    (q : tE B Γ R (fun s K => mr s fun y s1 => mf y (get s1) fun r t => K r (put s1 t)) σ H Q) : tCall (spB O As R mf) [] E (tCons (tVar i) (tA B Γ As mr)) σ H Q := by
  obtain ⟨s, F, K', A, hm, k⟩ := q
  obtain ⟨j, ob, h1, h2, h3, h4, h5⟩ := A.ow (hG s)
  refine ⟨_, h1, s, F, _, A, hm, fun y s1 vs F1 H1 q1 A1 e1 r1 => ?_⟩
  show spB O As R mf (.ref j :: vs ++ []) H1 Q E
  rw [List.append_nil]
  obtain ⟨j', ob1, g1, g2, g3, g4, g5⟩ := A1.ow (hG s1)
  rw [h1] at g1
  cases g1
  refine ⟨y, get s1, F1, _, j, vs, ob1, rfl, r1, A1.sub, g2, g3, g4, q1, fun r t' v F' H' o' kr rv eF eH sb nw fj hj ho => ?_⟩
  refine k r (put s1 t') v F' H' kr ?_ (e1.trans eF) rv
  rw [hP]
  have A2 := A1.grow (H' := fun b => if b = j then some ob1 else H' b) eF (fun b u g => by
    by_cases hb : b = j
    · subst hb; rw [g3] at g; cases g; exact if_pos rfl
    · show (if b = j then _ else _) = _
      rw [if_neg hb]; exact eH b u hb g) (fun b u g => by
    by_cases hb : b = j
    · subst hb; rw [fj] at g; cases g
    · show (if b = j then _ else _) = _
      rw [if_neg hb]; exact sb b u g) nw
  have A3 := A2.write (O' := O t') (o := o') (hG s1) h1 ho
  have : upd (fun b => if b = j then some ob1 else H' b) j o' = H' := by
    funext b
    unfold upd
    by_cases hb : b = j
    · subst hb; rw [if_pos rfl, hj]
    · rw [if_neg hb]
      show (if b = j then _ else _) = _
      rw [if_neg hb]
  rw [this] at A3
  exact A3
theorem te_callO {mf : ι → T → (α → T → Prop) → Prop} {pn : Pos} (i : Nat) (get : S → T) (put : S → T → S) (F : FnOk X.prog X.w X.K X.mg X.base CX0 k f fd ps (spB O As R mf)) (hr : Room k X.A) (hm : X.mg x = some (.ref f)) (hk : PySem.W.keepIn X.K (.ref f) = true) (hb : Binds X.K fd ps []) (ha : PA X es (tA B Γ As mr))
    (hG : ∀ s, (Γ s)[i]? = some (.ow (O (get s))) := by intro _; rfl) (hP : ∀ s t, Γ (put s t) = (Γ s).set i (.ow (O t)) := by intro _ _; rfl) (hN : X.N[i]? = some xn := by rfl) (hv : Vis X.env.scope xn := by first | exact Or.inl rfl | exact Or.inr (Or.inl rfl) | exact Or.inr (Or.inr rfl)) (hd : (xn == ("__debug__" : Str)) = false := by decide) (hcd : (xn == ("__classdict__" : Str)) = false := by decide)
    (hg : Gl X x := by rfl) (hdb : (x == ("__debug__" : Str)) = false := by decide) (hs : starEach (.Name xn pn :: es) X.env = (false, eval (.Name xn pn) X.env) :: starEach es X.env := by rfl) (hpl : (backTo pos (starEach es X.env)).any (·.1) = false := by rfl) :
    PE X (.Call (.Name x p) (.Name xn pn :: es) [] pos) (tE B Γ R (fun s K => mr s fun y s1 => mf y (get s1) fun r t => K r (put s1 t))) :=
  pe_imp (pe_call F hr hg hm hk hb .nil (pass0 (X := X)) (pa_cons (pe_var hN hv hd hcd) ha hs) hdb hs hpl) fun _ _ _ q => call_o hG hP q
end
/-! ### a def that hands back a thing of its caller's -/
def spO {ι T : Type} (O : T → Od) (As : ι → List Pd) (m : ι → (T → Prop) → Prop) : Sp := fun vs H Q _ => ∃ y F K, AllP (As y) vs F ∧ Same F H ∧ m y K ∧
  ∀ t q F' H' o, K t → Same F F' → Same H H' → Same F' H' → Nw F H F' → H q = none → F' q = none → H' q = some o → (O t).p o F' → Q (.ref q) H'
section
variable {X : Cx} {S S' : Type} {B : Bs} {Γ : S → List Sl} {K : PySem.W.Frag} {ι T : Type} {e : Expr} {es : List Expr} {pos spos p p' : Pos} {x xn : Str} {P : Xt} {rest : List Stmt} {k : Nat} {f : Addr} {fd : FuncData} {ps : List Str} {O : T → Od} {As : ι → List Pd} {mr : S → (ι → S → Prop) → Prop}
theorem ts_setCallO {i : Nat} {Γ' : S' → List Sl} {mk : S → T → S'} {mr2 : S' → Prop} {mf : ι → (T → Prop) → Prop} (nd : X.N.Nodup) (F : FnOk X.prog X.w X.K X.mg X.base CX0 k f fd ps (spO O As mf)) (hr0 : Room k X.A) (hm : X.mg x = some (.ref f)) (hk : PySem.W.keepIn X.K (.ref f) = true) (hb : Binds X.K fd ps []) (ha : PA X (e :: es) (tA B Γ As mr))
    (hG : ∀ s t, Γ' (mk s t) = (Γ s).set i (.ow (O t))) (hr : PSs X rest (tS B Γ' P mr2)) (hi : X.N[i]? = some xn := by rfl) (hx : Loc X.env.scope xn := by first | exact Or.inl rfl | exact Or.inr rfl) (hg : Gl X x := by rfl) (hdb : (x == ("__debug__" : Str)) = false := by decide)
    (hs : starEach (e :: es) X.env = (false, eval e X.env) :: starEach es X.env := by rfl) (hpl : (backTo pos (starEach es X.env)).any (·.1) = false := by rfl) (hsw : swapsWith (.Call (.Name x p) (e :: es) [] pos) (some (.Name xn p')) spos.line X.env = pure false := by rfl) (hf : X.fn xn = true ∨ X.env.scope.names.lookup xn = some .local := by first | exact .inl rfl | exact .inr rfl) :
    PSs X (.Assign [.Name xn p'] (.Call (.Name x p) (e :: es) [] pos) spos :: rest) (tS B Γ P (fun s => mr s fun y s1 => mf y fun t => mr2 (mk s1 t))) :=
  pss_imp (pss_cons (ps_set nd hi hx (pe_call F hr0 hg hm hk hb .nil (pass0 (X := X)) ha hdb hs hpl) hsw hf) hr) fun D σ H ⟨s, F, A, hm, L⟩ => ⟨s, F, _, A, hm, fun y s1 vs F1 H1 h1 A1 e1 r1 => by
    show spO O As mf (vs ++ []) H1 _ _
    rw [List.append_nil]
    refine ⟨y, F1, _, r1, A1.sub, h1, fun t q F' H' o kt eF eH sb nw nq fq hq ho => ?_⟩
    have A2 := A1.grow eF eH sb nw
    refine ⟨mk s1 t, F', ?_, kt, L⟩
    rw [hG]
    exact A2.setOw fq hq (A1.fresh nq).2 (A1.notOwn nq) ho⟩
end
end TL
namespace TL
open PySem L2

/-! ### isinstance, the kind being known -/
def TyR {α : Type} (K : PySem.W.Frag) (R : α → Pd) (t : Value) : Prop := ∀ x v F H, (R x).p v F → Same F H → TyX K H v t
section
variable {K : PySem.W.Frag} {α β : Type} {R Ra : α → Pd} {Rb : β → Pd}
theorem ty_int : TyR K RInt (.type "int") := fun x v F H h _ => by
  rw [show v = V.int x from h]; exact .base (.int x)
theorem ty_bool : TyR K RBool (.type "bool") := fun x v F H h _ => by
  rw [show v = V.bl x from h]; exact .base (.bl x)
theorem ty_str : TyR K RStr (.type "str") := fun x v F H h _ => by
  rw [show v = V.str x from h]; exact .base (.str x)
theorem ty_non : TyR K RNon (.type "NoneType") := fun x v F H h _ => by
  rw [show v = V.non from h]; exact .base .non
theorem ty_lst : TyR K (RLst R) (.type "list") := fun x v F H ⟨a, vs, h, h1, _⟩ e => by
  subst h; exact .base (.lst (e _ _ h1))
theorem ty_rd_l {H : Hp} {a : Addr} {vs : List V} (h : SqL K H a vs) : TyX K H (.ref a) (.type "list") := by
  rcases h with z | ⟨o, its, n, h1, h2, _⟩
  · rcases z with z | ⟨o, z⟩
    · exact .base (.lst z)
    · exact .base (.frz z)
  · exact .kList h1 h2
theorem ty_rd_t {H : Hp} {a : Addr} {vs : List V} (h : SqT K H a vs) : TyX K H (.ref a) (.type "tuple") := by
  rcases h with z | ⟨o, its, n, h1, h2, _⟩
  · rcases z with z | ⟨o, z⟩
    · exact .base (.tup z)
    · exact .fTuple z
  · exact .kTuple h1 h2
theorem ty_list : TyR K (RList K R) (.type "list") := fun x v F H ⟨a, vs, h, h1, _⟩ e => by
  subst h; exact ty_rd_l (seqL_mono e h1)
theorem ty_tup : TyR K (RTup K R) (.type "tuple") := fun x v F H ⟨a, vs, h, h1, _⟩ e => by
  subst h; exact ty_rd_t (seqT_mono e h1)
theorem ty_pair : TyR K (RPair K Ra Rb) (.type "tuple") := fun x v F H ⟨a, v1, v2, h, h1, _⟩ e => by
  subst h; exact ty_rd_t (seqT_mono e h1)
theorem ty_ins {C : Addr} {fl : α → List (Str × Pd)} (c : C8.InsC K C) : TyR K (fun x => RIns C (fl x)) (.ref C) := fun x v F H ⟨a, dx, fs, h, h1, _⟩ e => by
  subst h; exact .base (.ins (e _ _ h1) c.cl c.ha c.hn c.htk c.hm)
variable {X : Cx} {S : Type} {B : Bs} {Γ : S → List Sl} {e c d : Expr} {p pos pc : Pos} {m : S → (α → S → Prop) → Prop} {t u u' : Value} {b : Bool} {v v' : V} {n : String} {x : Str}
/-- a class as an expression -/
def PCl (X : Cx) (c : Expr) (u : Value) : Prop := ∃ v, PE X c (tC v) ∧ ClsV v u
theorem pcl_ty (hg : Gl X x) (hm : X.mg x = none) (hv : bootBuiltins x = some (.type n)) (hn : x ≠ "__name__" := by decide) (hd : (x == ("__debug__" : Str)) = false := by decide) : PCl X (.Name x pc) (.type n) := ⟨.ty n, pe_bltn hg hm hv rfl hn hd, .ty n⟩
theorem pcl_own {C : Addr} (hm : X.mg x = some (.ref C)) (hg : Gl X x := by rfl) (hd : (x == ("__debug__" : Str)) = false := by decide) : PCl X (.Name x pc) (.ref C) := ⟨.ref C, pe_glob hg hm rfl hd, .own C⟩
theorem te_isi (P : BP X "isinstance" (.builtin "isinstance")) (ty : TyR X.K R t) (he : PE X e (tE B Γ R m)) (hc : PCl X c u) (hk : PySem.W.kitOne X.K t u = some b)
    (hs : starEach [e, c] X.env = (false, eval e X.env) :: starEach [c] X.env := by rfl) (hs2 : starEach [c] X.env = (false, eval c X.env) :: starEach [] X.env := by rfl) (hpl : (backTo pos (starEach [c] X.env)).any (·.1) = false := by rfl) :
    PE X (.Call (.Name "isinstance" p) [e, c] [] pos) (tE B Γ RBool (fun s K => m s fun _ s1 => K b s1)) := by
  obtain ⟨v, hc, hv⟩ := hc
  exact pe_imp (pe_callB call_isi P.g P.m P.v (pa_cons he (pa_cons hc pa_nil hs2) hs) P.n P.d hs hpl) fun σ H Q ⟨s, F, K', A, hm, k⟩ => ⟨s, F, _, A, hm, fun x s1 w F1 H1 h1 A1 e1 r1 => ⟨w, v, t, u, b, rfl, hv, ty x w F1 H1 r1 A1.sub, hk, k b s1 (.bl b) F1 H1 h1 A1 e1 rfl⟩⟩
/-- isinstance(e, (c, d)) -/
theorem te_isi2 {k : Nat} {pt : Pos} (P : BP X "isinstance" (.builtin "isinstance")) (ty : TyR X.K R t) (he : PE X e (tE B Γ R m)) (hc : PCl X c u) (hd : PCl X d u') (hk : PySem.W.kitAny X.K t [u, u'] = some b)
    (hs : starEach [e, .Tuple [c, d] k pt] X.env = (false, eval e X.env) :: starEach [.Tuple [c, d] k pt] X.env := by rfl) (hs2 : starEach [.Tuple [c, d] k pt] X.env = (false, eval (.Tuple [c, d] k pt) X.env) :: starEach [] X.env := by rfl) (hpl : (backTo pos (starEach [.Tuple [c, d] k pt] X.env)).any (·.1) = false := by rfl)
    (hs3 : starEach [c, d] X.env = (false, eval c X.env) :: starEach [d] X.env := by rfl) (hs4 : starEach [d] X.env = (false, eval d X.env) :: starEach [] X.env := by rfl) :
    PE X (.Call (.Name "isinstance" p) [e, .Tuple [c, d] k pt] [] pos) (tE B Γ RBool (fun s K => m s fun _ s1 => K b s1)) := by
  obtain ⟨v, hc, hv⟩ := hc
  obtain ⟨v', hd, hv'⟩ := hd
  exact pe_imp (pe_callB call_isiT P.g P.m P.v (pa_cons he (pa_cons (pe_tup (pa_cons hc (pa_cons hd pa_nil hs4) hs3)) pa_nil hs2) hs) P.n P.d hs hpl) fun σ H Q ⟨s, F, K', A, hm, k⟩ => ⟨s, F, _, A, hm, fun x s1 w F1 H1 h1 A1 e1 r1 => ⟨by show 2 ≤ sizeLine; decide, fun q nq =>
    ⟨w, q, [v, v'], t, [u, u'], b, rfl, upd_same, .cons hv (.cons hv' .nil), ty x w F1 _ r1 (A1.sub.trans (same_upd nq)), hk, k b s1 (.bl b) F1 _ h1 (A1.layH nq) e1 rfl⟩⟩⟩
theorem bg_int {X : Cx} (hm : X.mg "int" = none) (hg : Gl X "int" := by rfl) : PCl X (.Name "int" pc) (.type "int") := pcl_ty hg hm (by decide +kernel)
theorem bg_bool {X : Cx} (hm : X.mg "bool" = none) (hg : Gl X "bool" := by rfl) : PCl X (.Name "bool" pc) (.type "bool") := pcl_ty hg hm (by decide +kernel)
theorem bg_str {X : Cx} (hm : X.mg "str" = none) (hg : Gl X "str" := by rfl) : PCl X (.Name "str" pc) (.type "str") := pcl_ty hg hm (by decide +kernel)
theorem bg_list {X : Cx} (hm : X.mg "list" = none) (hg : Gl X "list" := by rfl) : PCl X (.Name "list" pc) (.type "list") := pcl_ty hg hm (by decide +kernel)
theorem bg_tuple {X : Cx} (hm : X.mg "tuple" = none) (hg : Gl X "tuple" := by rfl) : PCl X (.Name "tuple" pc) (.type "tuple") := pcl_ty hg hm (by decide +kernel)
end
theorem kit2 {K : PySem.W.Frag} {a b c : String} {r1 r2 : Bool} (h : kitB a b = some r1) (h2 : kitB a c = some r2) : PySem.W.kitAny K (.type a) [.type b, .type c] = some (r1 || r2) := by
  unfold PySem.W.kitAny
  rw [kit_ty h]
  cases r1 with
  | true => rfl
  | false =>
    show PySem.W.kitAny K (.type a) [.type c] = _
    unfold PySem.W.kitAny
    rw [kit_ty h2]
    cases r2 <;> rfl

/-! ### the law's jar: [cells, at, rest] -/
abbrev Jar := List Int × Int × Int
def OJar (j : Jar) : Od := ⟨fun o F => ∃ v, o = .lst [v, .int j.2.1, .int j.2.2] ∧ (RLst RInt j.1).p v F, fun _ _ _ e ⟨v, h1, h2⟩ => ⟨v, h1, (RLst RInt _).mono _ _ _ e h2⟩⟩
section
variable {X : Cx} {S S' : Type} {B : Bs} {Γ : S → List Sl} {K : PySem.W.Frag} {e : Expr} {pos pn pb p' : Pos} {xn : Str} {kk : Nat} {j : Addr} {P : Xt} {rest : List Stmt}
theorem te_jar0 (i : Nat) (get : S → Jar) (hG : ∀ s, (Γ s)[i]? = some (.bo j (OJar (get s))) := by intro _; rfl) (hN : X.N[i]? = some xn := by rfl) (hv : Vis X.env.scope xn := by first | exact Or.inl rfl | exact Or.inr (Or.inl rfl) | exact Or.inr (Or.inr rfl)) (hd : (xn == ("__debug__" : Str)) = false := by decide) (hcd : (xn == ("__classdict__" : Str)) = false := by decide)
    (hs : PlainIx (.Constant (.int 0) kk pb) := by exact fun _ _ => rfl) : PE X (.Subscript (.Name xn pn) (.Constant (.int 0) kk pb) pos) (tE B Γ (RLst RInt) (fun s K => K (get s).1 s)) :=
  pe_imp (pe_ix ix_list (pe_var hN hv hd hcd) pe_int hs) fun σ H Q ⟨s, F, K', A, hm, k⟩ => by
    obtain ⟨o, h1, h2, h3, ⟨v, h4, h5⟩, h6⟩ := A.bo (hG s)
    subst h4
    exact ⟨_, h1, j, _, 0, v, rfl, rfl, SqL.of h3, rfl, k _ s v F H hm A (Same.refl F) h5⟩
theorem te_jar1 (i : Nat) (get : S → Jar) (hG : ∀ s, (Γ s)[i]? = some (.bo j (OJar (get s))) := by intro _; rfl) (hN : X.N[i]? = some xn := by rfl) (hv : Vis X.env.scope xn := by first | exact Or.inl rfl | exact Or.inr (Or.inl rfl) | exact Or.inr (Or.inr rfl)) (hd : (xn == ("__debug__" : Str)) = false := by decide) (hcd : (xn == ("__classdict__" : Str)) = false := by decide)
    (hs : PlainIx (.Constant (.int 1) kk pb) := by exact fun _ _ => rfl) : PE X (.Subscript (.Name xn pn) (.Constant (.int 1) kk pb) pos) (tE B Γ RInt (fun s K => K (get s).2.1 s)) :=
  pe_imp (pe_ix ix_list (pe_var hN hv hd hcd) pe_int hs) fun σ H Q ⟨s, F, K', A, hm, k⟩ => by
    obtain ⟨o, h1, h2, h3, ⟨v, h4, h5⟩, h6⟩ := A.bo (hG s)
    subst h4
    exact ⟨_, h1, j, _, 1, _, rfl, rfl, SqL.of h3, rfl, k _ s (.int (get s).2.1) F H hm A (Same.refl F) rfl⟩
theorem te_jar2 (i : Nat) (get : S → Jar) (hG : ∀ s, (Γ s)[i]? = some (.bo j (OJar (get s))) := by intro _; rfl) (hN : X.N[i]? = some xn := by rfl) (hv : Vis X.env.scope xn := by first | exact Or.inl rfl | exact Or.inr (Or.inl rfl) | exact Or.inr (Or.inr rfl)) (hd : (xn == ("__debug__" : Str)) = false := by decide) (hcd : (xn == ("__classdict__" : Str)) = false := by decide)
    (hs : PlainIx (.Constant (.int 2) kk pb) := by exact fun _ _ => rfl) : PE X (.Subscript (.Name xn pn) (.Constant (.int 2) kk pb) pos) (tE B Γ RInt (fun s K => K (get s).2.2 s)) :=
  pe_imp (pe_ix ix_list (pe_var hN hv hd hcd) pe_int hs) fun σ H Q ⟨s, F, K', A, hm, k⟩ => by
    obtain ⟨o, h1, h2, h3, ⟨v, h4, h5⟩, h6⟩ := A.bo (hG s)
    subst h4
    exact ⟨_, h1, j, _, 2, _, rfl, rfl, SqL.of h3, rfl, k _ s (.int (get s).2.2) F H hm A (Same.refl F) rfl⟩
variable {m : S → (Int → S → Prop) → Prop} {mr : S → Prop}
theorem ts_jar1 (i : Nat) (get : S → Jar) (put : S → Jar → S) (he : PE X e (tE B Γ RInt m)) (hr : PSs X rest (tS B Γ P mr)) (hG : ∀ s, (Γ s)[i]? = some (.bo j (OJar (get s))) := by intro _; rfl) (hP : ∀ s t, Γ (put s t) = (Γ s).set i (.bo j (OJar t)) := by intro _ _; rfl) (hN : X.N[i]? = some xn := by rfl) (hv : Vis X.env.scope xn := by first | exact Or.inl rfl | exact Or.inr (Or.inl rfl) | exact Or.inr (Or.inr rfl)) (hd : (xn == ("__debug__" : Str)) = false := by decide) (hcd : (xn == ("__classdict__" : Str)) = false := by decide)
    (hs : swapsWithSole [.Subscript (.Name xn pn) (.Constant (.int 1) kk pb) p'] e pos.line X.env = pure false := by rfl) (hw : swappedStores [.Subscript (.Name xn pn) (.Constant (.int 1) kk pb) p'] e X.env = pure none := by rfl)
    (h1 : (assignEach [.Subscript (.Name xn pn) (.Constant (.int 1) kk pb) p'] X.env).map (·.2) = [assign (.Subscript (.Name xn pn) (.Constant (.int 1) kk pb) p') X.env] := by rfl) :
    PSs X (.Assign [.Subscript (.Name xn pn) (.Constant (.int 1) kk pb) p'] e pos :: rest) (tS B Γ P (fun s => m s fun x s1 => mr (put s1 ((get s1).1, x, (get s1).2.2)))) :=
  pss_imp (pss_cons (ps_asg he (pg_sub (pe_var hN hv hd hcd) pe_int set_list) hs hw h1) hr) fun D σ H ⟨s, F, A, hm, L⟩ => ⟨s, F, _, A, hm, fun x s1 w F1 H1 q1 A1 e1 r1 => by
    obtain ⟨o, h1, h2, h3, ⟨v, h4, h5⟩, h6⟩ := A1.bo (hG s1)
    subst h4
    rw [show w = V.int x from r1]
    exact ⟨_, h1, j, _, 1, 1, rfl, rfl, h3, rfl, _, F1, by rw [hP]; exact A1.writeB (O' := OJar ((get s1).1, x, (get s1).2.2)) (hG s1) ⟨v, rfl, h5⟩, q1, L⟩⟩
theorem ts_jar2 (i : Nat) (get : S → Jar) (put : S → Jar → S) (he : PE X e (tE B Γ RInt m)) (hr : PSs X rest (tS B Γ P mr)) (hG : ∀ s, (Γ s)[i]? = some (.bo j (OJar (get s))) := by intro _; rfl) (hP : ∀ s t, Γ (put s t) = (Γ s).set i (.bo j (OJar t)) := by intro _ _; rfl) (hN : X.N[i]? = some xn := by rfl) (hv : Vis X.env.scope xn := by first | exact Or.inl rfl | exact Or.inr (Or.inl rfl) | exact Or.inr (Or.inr rfl)) (hd : (xn == ("__debug__" : Str)) = false := by decide) (hcd : (xn == ("__classdict__" : Str)) = false := by decide)
    (hs : swapsWithSole [.Subscript (.Name xn pn) (.Constant (.int 2) kk pb) p'] e pos.line X.env = pure false := by rfl) (hw : swappedStores [.Subscript (.Name xn pn) (.Constant (.int 2) kk pb) p'] e X.env = pure none := by rfl)
    (h1 : (assignEach [.Subscript (.Name xn pn) (.Constant (.int 2) kk pb) p'] X.env).map (·.2) = [assign (.Subscript (.Name xn pn) (.Constant (.int 2) kk pb) p') X.env] := by rfl) :
    PSs X (.Assign [.Subscript (.Name xn pn) (.Constant (.int 2) kk pb) p'] e pos :: rest) (tS B Γ P (fun s => m s fun x s1 => mr (put s1 ((get s1).1, (get s1).2.1, x)))) :=
  pss_imp (pss_cons (ps_asg he (pg_sub (pe_var hN hv hd hcd) pe_int set_list) hs hw h1) hr) fun D σ H ⟨s, F, A, hm, L⟩ => ⟨s, F, _, A, hm, fun x s1 w F1 H1 q1 A1 e1 r1 => by
    obtain ⟨o, h1, h2, h3, ⟨v, h4, h5⟩, h6⟩ := A1.bo (hG s1)
    subst h4
    rw [show w = V.int x from r1]
    exact ⟨_, h1, j, _, 2, 2, rfl, rfl, h3, rfl, _, F1, by rw [hP]; exact A1.writeB (O' := OJar ((get s1).1, (get s1).2.1, x)) (hG s1) ⟨v, rfl, h5⟩, q1, L⟩⟩
/-- return [[..], 0, 0]: the jar is handed over -/
def xO {T : Type} (B : Bs) (O : T → Od) (Kf : T → Prop) : Xt := { nx := fun _ _ _ => False, rt := fun v F H => ∃ t q o, Kf t ∧ v = .ref q ∧ Fin B F H ∧ B.H q = none ∧ F q = none ∧ H q = some o ∧ (O t).p o F }
theorem ts_retJar {a b c : Expr} {pl : Pos} {ma : S → (List Int → S → Prop) → Prop} {mb mc : S → (Int → S → Prop) → Prop} {Kf : Jar → Prop} (ha : PE X a (tE B Γ (RLst RInt) ma)) (hb : PE X b (tE B Γ RInt mb)) (hc : PE X c (tE B Γ RInt mc)) (hP : P.rt = (xO B OJar Kf).rt := by rfl)
    (hs : starEach [a, b, c] X.env = (false, eval a X.env) :: starEach [b, c] X.env := by rfl) (hs2 : starEach [b, c] X.env = (false, eval b X.env) :: starEach [c] X.env := by rfl) (hs3 : starEach [c] X.env = (false, eval c X.env) :: starEach [] X.env := by rfl) :
    PSs X [.Return (some (.List [a, b, c] pl)) pos] (tS B Γ P (fun s => ma s fun x s1 => mb s1 fun y s2 => mc s2 fun z _ => Kf (x, y, z))) :=
  pss_imp (pss_one (ps_ret (pe_lst (ta_cons ha (ta_cons hb (ta_cons hc ta_nil hs3) hs2) hs)))) fun D σ H ⟨s, F, A, hm, L⟩ => ⟨s, F, fun x s' => Kf (x.1, x.2.1, x.2.2.1), A, hm, fun x s1 vs F1 H1 q1 A1 e1 r1 => by
    obtain ⟨x, y, z, u⟩ := x
    match vs, r1 with
    | [v1, v2, v3], ⟨r1, r2, r3, _⟩ =>
      refine ⟨by show 3 ≤ sizeLine; decide, fun p np => L.rt (.ref p) F1 _ ?_⟩
      rw [hP]
      have fr := A1.fresh np
      have A2 := A1.layH (o := .lst [v1, v2, v3]) np
      rw [show v2 = V.int y from r2, show v3 = V.int z from r3] at A2 ⊢
      exact ⟨(x, y, z), p, _, q1, rfl, A2.fin, fr.2, fr.1, upd_same, v1, rfl, r1⟩⟩
end
section
variable {P : Program} {w : World} {K : PySem.W.Frag} {mg : Str → Option Value} {base : Heap} {xq qual : Str} {st : Stmt} {f : Addr} {fd : FuncData} {N ps : List Str} {k : Nat} {ι T : Type} {As : ι → List Pd} {O : T → Od}
theorem fnO {mf : ι → (T → Prop) → Prop} (F : Fun K xq qual st f fd) (Sc : FnScope N ps (defScope st)) (hl : ∀ y, (As y).length = ps.length)
    (hb : ∀ (cdv : Value) (A : Around) (outer : List Env) (s : Shared) (H : Hp) (E : XK), Room k (A.deeper (PyProof.Rows.envOfC qual (defScope st) s.heap.objs.size f cdv)) → ∀ (y : ι) (Kf : T → Prop) (B : Bs),
      PSs (cxOf CX0 P w K mg base N qual (defScope st) f cdv A outer s H E).nox (defBody st) (tS B (fun _ : Unit => startG N (As y)) (xO B O Kf) (fun _ => mf y Kf))) : FnOk P w K mg base CX0 (k + 1) f fd ps (spO O As mf) := by
  refine F.ok Sc (fun vs H Q E h => ?_) (fun cdv A outer s H vs Q E hr h => ?_)
  · obtain ⟨y, F, K', h1, _⟩ := h
    rw [h1.len]; exact hl y
  · obtain ⟨y, F, K', h1, h2, h3, h4⟩ := h
    refine ⟨_, hb cdv A outer s H E hr y K' ⟨F, H, fun _ => False, []⟩, ?_⟩
    refine ⟨(), F, ?_, h3, ?_⟩
    · have hl' : N.length - (As y).length = N.length - ps.length := by rw [hl y]
      have hp : ps.length ≤ N.length := by
        have := congrArg List.length Sc.pre
        rw [List.length_take] at this
        omega
      have hv : vs.length = (As y).length := h1.len
      obtain ⟨r1, r2⟩ := fits_start (B := ⟨F, H, fun _ => False, []⟩) (H := H) (N.length - (As y).length) h1
      refine ⟨h2, Same.refl _, fun a o e _ => e, fun a o e => .inl e, ?_, ?_, fun a z => z.elim, fun _ z => nomatch z⟩
      · show Fits _ F H (startG N (As y)) (L2.start N vs)
        unfold startG L2.start
        rw [hv]
        exact r1
      · show (owA (startG N (As y)) (L2.start N vs)).Nodup
        unfold startG L2.start
        rw [hv, r2]
        exact List.Pairwise.nil
    · refine ⟨fun _ _ _ z => z.elim, fun v F' H' ⟨t, q, o, q1, q2, q3, q4, q5, q6, q7⟩ => ?_, fun _ _ _ z => z.elim, fun _ _ _ z => z.elim⟩
      subst q2
      exact h4 t q F' H' o q1 q3.1 (fun a o e => q3.2.2.1 a o e id) q3.2.1 q3.2.2.2 q4 q5 q6 q7
end
end TL
namespace TL
open PySem L2
section
variable {X : Cx} {S S' : Type} {B : Bs} {Γ : S → List Sl} {K : PySem.W.Frag} {α β γ ι : Type} {R Ra : α → Pd} {Rb : β → Pd} {Rc : γ → Pd} {e a b c tg it elt cond : Expr} {pos p spos py : Pos} {x y : Str} {scope : Scope} {own : List (Str × Nat)}
variable {m ma : S → (α → S → Prop) → Prop} {mb : S → (β → S → Prop) → Prop} {g : TG} {js : List Nat} {up : List Sl → α → List Sl}
theorem tn_e {m : S → (List α → S → Prop) → Prop} {σ : L2.St} {H : Hp} {Q : VK} (q : tE B Γ (RLst R) m σ H Q) : tN B Γ R m σ H Q := by
  obtain ⟨s, F, K', A, hm, k⟩ := q
  exact ⟨s, F, K', A, hm, fun xs s' p vs F' H' kx A' e' hp fp bp np av => by
    obtain ⟨A2, sF⟩ := A'.know fp hp bp np
    exact k xs s' (.ref p) (upd F' p (.lst vs)) H' kx A2 (e'.trans sF) ⟨p, vs, rfl, upd_same, av.mono sF⟩⟩
/-- y = [e for x in xs if c], y a plain local, on one row -/
theorem ps_compIf {i : Nat} {mi : S → (List α → S → Prop) → Prop} {mt : S → α → Unit → (Bool → Unit → Prop) → Prop} {me : S → α → Unit → (β → Unit → Prop) → Prop} (nd : X.N.Nodup) (hi : PI X tg it (tI B Γ R mi)) (ok : BlkOk X.N X.env.scope scope own)
    (hg : ∀ (s : Shared) (H : Hp) (C : Addr) (cl : List (Str × Addr)) (fp : List Addr), PG (X.blk s H scope (compEnvC scope cl C X.env) fp) tg g) (tgt : Tg g R js up)
    (ht : ∀ (s1 : S) (x : α) (B' : Bs) (s : Shared) (H : Hp) (C : Addr) (cl : List (Str × Addr)) (fp : List Addr), PT (X.blk s H scope (compEnvC scope cl C X.env) fp) cond (tT B' (fun _ : Unit => up (pureFrom (own.map (·.2)) 0 (Γ s1)) x) (mt s1 x)))
    (he : ∀ (s1 : S) (x : α) (B' : Bs) (s : Shared) (H : Hp) (C : Addr) (cl : List (Str × Addr)) (fp : List Addr), PE (X.blk s H scope (compEnvC scope cl C X.env) fp) elt (tE B' (fun _ : Unit => up (pureFrom (own.map (·.2)) 0 (Γ s1)) x) Rb (me s1 x)))
    (hsw : swapsWith (.ListComp elt [⟨tg, it, [cond], 0⟩] scope pos) (some (.Name y py)) spos.line X.env = pure true := by exact sw_true rfl rfl rfl (by decide +kernel)) (hy : X.N[i]? = some y := by rfl) (hyl : X.env.scope.names.lookup y = some .local := by rfl)
    (hj : ∀ j ∈ js, j ∈ own.map (·.2) := by decide) (hc : X.calm = true := by rfl) (hs : ∀ x, foldedSetIterable it X.env x = pure x := by intro _; rfl) :
    PS X (.Assign [.Name y py] (.ListComp elt [⟨tg, it, [cond], 0⟩] scope pos) spos) (tAsg (tE B Γ (RLst Rb) (fun s K => mi s fun xs s1 => xs.length ≤ 1000000 ∧ mMapIf xs (fun x K => mt s1 x () fun b _ => K b) (fun x K => me s1 x () fun y _ => K y) fun ys => K ys s1)) (gName i)) :=
  ps_imp (ps_setLc hc nd hy hyl hsw hi ok hg (fun s H C cl fp => pts_one (pt_imp (t := fun σ H Q => ∃ i : S × α × Bs, tT i.2.2 (fun _ : Unit => up (pureFrom (own.map (·.2)) 0 (Γ i.1)) i.2.1) (mt i.1 i.2.1) σ H Q)
      ⟨fun pins s' σ H' Q I ⟨i, q⟩ => (ht i.1 i.2.1 i.2.2 s H C cl fp).run pins s' σ H' Q I q⟩ fun _ _ _ q => q))
    (fun s H C cl fp => pe_ex fun i : S × α × Bs => he i.1 i.2.1 i.2.2 s H C cl fp) hs)
    fun D σ H q => lc_read (mt := fun s1 x K => mt s1 x () fun b _ => K b) (me := fun s1 x K => me s1 x () fun y _ => K y) tgt (fun s => pur_pure _ 0 _) hj (fun s i hi => pure_any _ 0 _ i (by simpa using hi)) (tn_e q)
theorem ps_map {i : Nat} {mi : S → (List α → S → Prop) → Prop} {me : S → α → Unit → (β → Unit → Prop) → Prop} (nd : X.N.Nodup) (hi : PI X tg it (tI B Γ R mi)) (ok : BlkOk X.N X.env.scope scope own)
    (hg : ∀ (s : Shared) (H : Hp) (C : Addr) (cl : List (Str × Addr)) (fp : List Addr), PG (X.blk s H scope (compEnvC scope cl C X.env) fp) tg g) (tgt : Tg g R js up)
    (he : ∀ (s1 : S) (x : α) (B' : Bs) (s : Shared) (H : Hp) (C : Addr) (cl : List (Str × Addr)) (fp : List Addr), PE (X.blk s H scope (compEnvC scope cl C X.env) fp) elt (tE B' (fun _ : Unit => up (pureFrom (own.map (·.2)) 0 (Γ s1)) x) Rb (me s1 x)))
    (hsw : swapsWith (.ListComp elt [⟨tg, it, [], 0⟩] scope pos) (some (.Name y py)) spos.line X.env = pure true := by exact sw_true rfl rfl rfl (by decide +kernel)) (hy : X.N[i]? = some y := by rfl) (hyl : X.env.scope.names.lookup y = some .local := by rfl)
    (hj : ∀ j ∈ js, j ∈ own.map (·.2) := by decide) (hc : X.calm = true := by rfl) (hs : ∀ x, foldedSetIterable it X.env x = pure x := by intro _; rfl) :
    PS X (.Assign [.Name y py] (.ListComp elt [⟨tg, it, [], 0⟩] scope pos) spos) (tAsg (tE B Γ (RLst Rb) (fun s K => mi s fun xs s1 => xs.length ≤ 1000000 ∧ mMap xs (fun x K => me s1 x () fun y _ => K y) fun ys => K ys s1)) (gName i)) :=
  ps_imp (ps_setLc hc nd hy hyl hsw hi ok hg (fun s H C cl fp => pts_ex fun i : S × α × Bs => pts_yes (B' := i.2.2) (Γ' := fun _ : Unit => up (pureFrom (own.map (·.2)) 0 (Γ i.1)) i.2.1))
    (fun s H C cl fp => pe_ex fun i : S × α × Bs => he i.1 i.2.1 i.2.2 s H C cl fp) hs)
    fun D σ H q => lc_read (mt := fun _ _ K => K true) (me := fun s1 x K => me s1 x () fun y _ => K y) tgt (fun s => pur_pure _ 0 _) hj (fun s i hi => pure_any _ 0 _ i (by simpa using hi)) (by
      obtain ⟨s, F, K', A, hm, k⟩ := tn_e q
      refine ⟨s, F, K', A, ?_, k⟩
      have : (fun (xs : List α) (s1 : S) => xs.length ≤ 1000000 ∧ mMapIf xs (fun _ K => K true) (fun x K => me s1 x () fun y _ => K y) fun ys => K' ys s1) = (fun xs s1 => xs.length ≤ 1000000 ∧ mMap xs (fun x K => me s1 x () fun y _ => K y) fun ys => K' ys s1) := by
        funext xs s1
        rw [← mMapIf_true]
      show mi s (fun (xs : List α) (s1 : S) => xs.length ≤ 1000000 ∧ mMapIf xs (fun _ K => K true) (fun x K => me s1 x () fun y _ => K y) fun ys => K' ys s1)
      rw [this]
      exact hm)
end
end TL
namespace TL
open PySem L2
section
variable {X : Cx} {S : Type} {B : Bs} {Γ : S → List Sl} {K : PySem.W.Frag} {α β : Type} {R : α → Pd} {a b e : Expr} {pos : Pos}
theorem te_never : PE X e (tE B Γ R (fun _ _ => False)) := ⟨fun _ _ _ _ _ _ ⟨_, _, _, _, h, _⟩ => h.elim⟩
theorem tt_never : PT X e (tT B Γ (fun _ _ => False)) := ⟨fun _ _ _ _ _ _ ⟨_, _, _, _, h, _⟩ => h.elim⟩
def Nn (R : α → Pd) : Prop := ∀ x v F, (R x).p v F → v ≠ .non
theorem nn_int : Nn RInt := fun x v F h z => by rw [z] at h; exact nomatch h
theorem nn_bool : Nn RBool := fun x v F h z => by rw [z] at h; exact nomatch h
theorem nn_str : Nn RStr := fun x v F h z => by rw [z] at h; exact nomatch h
theorem nn_lst : Nn (RLst R) := fun x v F ⟨_, _, h, _⟩ z => by rw [z] at h; exact nomatch h
theorem nn_list : Nn (RList K R) := fun x v F ⟨_, _, h, _⟩ z => by rw [z] at h; exact nomatch h
theorem nn_tup : Nn (RTup K R) := fun x v F ⟨_, _, h, _⟩ z => by rw [z] at h; exact nomatch h
theorem nn_pair {Ra : α → Pd} {Rb : β → Pd} : Nn (RPair K Ra Rb) := fun x v F ⟨_, _, _, h, _⟩ z => by rw [z] at h; exact nomatch h
theorem nn_ins {C : Addr} {fl : α → List (Str × Pd)} : Nn (fun x => RIns C (fl x)) := fun x v F ⟨_, _, _, h, _⟩ z => by rw [z] at h; exact nomatch h
theorem cr_isNo (n : Nn R) : CR X .Is R RNon (fun _ _ => false) := ⟨_, op_isN, OpU.g fun x y v w F H Q hx hy _ q => ⟨hy, q _ (by
  show V.bl _ = V.bl _
  rw [decide_eq_false (n x v F hx)])⟩⟩
theorem cr_notNo (n : Nn R) : CR X .IsNot R RNon (fun _ _ => true) := ⟨_, op_notN, OpU.g fun x y v w F H Q hx hy _ q => ⟨hy, q _ (by
  show V.bl _ = V.bl _
  rw [decide_eq_false (n x v F hx)]; rfl)⟩⟩
theorem cr_isNN : CR X .Is RNon RNon (fun _ _ => true) := ⟨_, op_isN, OpU.g fun x y v w F H Q hx hy _ q => ⟨hy, q _ (by
  have : v = V.non := hx
  subst this; rfl)⟩⟩
theorem cr_notNN : CR X .IsNot RNon RNon (fun _ _ => false) := ⟨_, op_notN, OpU.g fun x y v w F H Q hx hy _ q => ⟨hy, q _ (by
  have : v = V.non := hx
  subst this; rfl)⟩⟩
end
section
open PySem.Spec PyProof.Rows
/-- t * 1, () * n: the tuple itself -/
theorem tuple_mulS (l : Addr) (items : Array Value) (n : Nat) (dd : Option Addr) (sl : Array (Option Value)) (x : Int) (u : Tok) (c0 : (decide (x < -(2 ^ 63)) || decide (x ≥ 2 ^ 63)) = false) (c1 : (items.isEmpty || x == 1) = true) :
    Meets (Builtin.«tuple.__mul__» ⟨[.ref l, .int x u], []⟩) (fun _ R s => s.heap.get? l = some { cls := .type "tuple", dict := dd, data := .seq items n, slots := sl } ∧ R (.ok (.ret (Value.ref l))) s) :=
  .of_wp fun prog w A R s h => by
    obtain ⟨hp, g, d, tk, os⟩ := s
    obtain ⟨hl, h⟩ := h
    have f1 := AutoSeq1.idx_int
    wp_walk using wpAny_loadPart' hl
    repeat (first
      | (refine wpAny_ite_false (decide_eq_false (by rw [c0]; exact Bool.false_ne_true)) ?_; wp_walk using wpAny_loadPart' hl)
      | (refine wpAny_ite_true (decide_eq_true c1) ?_; wp_walk using wpAny_loadPart' hl))
    exact ⟨_, rfl, h⟩
/-- t * 0 -/
theorem tuple_mulZ (l : Addr) (items : Array Value) (n : Nat) (dd : Option Addr) (sl : Array (Option Value)) (x : Int) (u : Tok) (c0 : (decide (x < -(2 ^ 63)) || decide (x ≥ 2 ^ 63)) = false) (c1 : (items.isEmpty || x == 1) = false) (c2 : (decide (x ≤ 0) || items.isEmpty) = true) :
    Meets (Builtin.«tuple.__mul__» ⟨[.ref l, .int x u], []⟩) (fun _ R s => s.heap.get? l = some { cls := .type "tuple", dict := dd, data := .seq items n, slots := sl } ∧
      R (.ok (.ret (Value.ref s.heap.objs.size))) { s with heap := s.heap.push { cls := Value.type "tuple", data := Data.seq #[] }, toks := s.toks }) :=
  .of_wp fun prog w A R s h => by
    obtain ⟨hp, g, d, tk, os⟩ := s
    obtain ⟨hl, h⟩ := h
    have f1 := AutoSeq1.idx_int
    wp_walk using wpAny_loadPart' hl
    repeat (first
      | (refine wpAny_ite_false (decide_eq_false (by rw [c0]; exact Bool.false_ne_true)) ?_; wp_walk using wpAny_loadPart' hl)
      | (refine wpAny_ite_false (decide_eq_false (by rw [c1]; exact Bool.false_ne_true)) ?_; wp_walk using wpAny_loadPart' hl)
      | (refine wpAny_ite_true (decide_eq_true c2) ?_; wp_walk using wpAny_loadPart' hl))
    exact ⟨_, rfl, h⟩
def rRepA (K : PySem.W.Frag) : R2 := fun x y H Q => ∃ l k xs, x = .ref l ∧ y = .int k ∧ SqT K H l xs ∧ -(2 ^ 63) ≤ k ∧ k < 2 ^ 63 ∧ xs.length * k.toNat ≤ 1000000 ∧
  (xs = [] ∨ k = 1 → Q (.ref l) H) ∧ (¬ (xs = [] ∨ k = 1) → ∀ p, H p = none → Q (.ref p) (upd H p (.tup (List.replicate k.toNat xs).flatten)))
theorem op_repA {X : Cx} : OpR X (binaryOp .Mult) (rRepA X.K) := by
  intro pins s σ H x y v u Q I rx ry h
  obtain ⟨l, k, xs, rfl, rfl, hT, h1, h2, hz, q1, q2⟩ := h
  cases rx
  obtain ⟨t, rfl⟩ := ry
  obtain ⟨its, r, ⟨⟨cls, dd, data, sl⟩, ho, hc, n, hd⟩, hs⟩ := I.tuple hT
  simp only at hc hd
  subst hc hd
  have hle : its.length = xs.length := r.length.symm
  have hi : its.toArray.isEmpty = decide (xs = []) := by
    cases its with
    | nil =>
      have : xs = [] := List.eq_nil_of_length_eq_zero hle.symm
      subst this; rfl
    | cons a b =>
      cases xs with
      | nil => cases hle
      | cons c d => rfl
  have c0 : (decide (k < -(2 ^ 63)) || decide (k ≥ 2 ^ 63)) = false := by
    rw [decide_eq_false (by omega), decide_eq_false (by omega)] <;> rfl
  have hsz0 : its.toArray.size = xs.length := by rw [List.size_toArray, hle]
  by_cases hw : xs = [] ∨ k = 1
  · have c1 : (its.toArray.isEmpty || k == 1) = true := by
      rw [hi, Bool.or_eq_true, decide_eq_true_eq, beq_iff_eq]
      exact hw
    refine wpAny_binaryOp_repeat_ref (T := "tuple") (U := "int") (by decide) ⟨_, ho, rfl⟩ (fun s' => typeIs_int s' k t) noFill_tuple_mul F.fills_int_mul F.slot_int_rmul repeat_tuple F.slot_int_index.lookup
      (call_meets F.slot_int_rmul (typeIs_int s k t) F.entry_int_rmul (F.args_int_rmul_2 _ _) (int_rmul_tuple k t l its.toArray n dd sl)
        ⟨ho, rfl, ⟨_, ho, rfl⟩, call_meets F.slot_tuple_mul ⟨_, ho, rfl⟩ F.entry_tuple_mul (F.args_tuple_mul_2 _ _) (tuple_mulS l its.toArray n dd sl k t c0 c1) ⟨ho, ?_⟩⟩)
    exact ⟨.ref l, H, I, rfl, q1 hw⟩
  · have hne : xs ≠ [] := fun e => hw (.inl e)
    have hk1 : k ≠ 1 := fun e => hw (.inr e)
    have c1 : (its.toArray.isEmpty || k == 1) = false := by
      rw [hi, decide_eq_false hne, Bool.false_or]
      exact beq_eq_false_iff_ne.mpr hk1
    have flen : (List.replicate k.toNat its).flatten.length ≤ sizeLine := by
      rw [PyProof.Rows.lm_len_rep_flat, hle, Nat.mul_comm]
      exact Nat.le_trans hz (by decide)
    by_cases hk : k ≤ 0
    · have c2 : (decide (k ≤ 0) || its.toArray.isEmpty) = true := by
        rw [decide_eq_true hk]; rfl
      refine wpAny_binaryOp_repeat_ref (T := "tuple") (U := "int") (by decide) ⟨_, ho, rfl⟩ (fun s' => typeIs_int s' k t) noFill_tuple_mul F.fills_int_mul F.slot_int_rmul repeat_tuple F.slot_int_index.lookup
        (call_meets F.slot_int_rmul (typeIs_int s k t) F.entry_int_rmul (F.args_int_rmul_2 _ _) (int_rmul_tuple k t l its.toArray n dd sl)
          ⟨ho, rfl, ⟨_, ho, rfl⟩, call_meets F.slot_tuple_mul ⟨_, ho, rfl⟩ F.entry_tuple_mul (F.args_tuple_mul_2 _ _) (tuple_mulZ l its.toArray n dd sl k t c0 c1 c2) ⟨ho, ?_⟩⟩)
      have e0 : k.toNat = 0 := Int.toNat_eq_zero.mpr hk
      refine ⟨.ref s.heap.objs.size, _, I.laid (t' := s.toks) (o := .tup (List.replicate k.toNat xs).flatten) (fun b ob q => Heap.get?_push_of_some _ q) (Nat.le_refl _) ?_, rfl, q2 hw _ (I.hok.fresh (Nat.le_refl _))⟩
      rw [e0]
      exact ⟨Nat.zero_le _, _, .nil, IsTup.new _ _⟩
    · have c2 : (decide (k ≤ 0) || its.toArray.isEmpty) = false := by
        rw [hi, decide_eq_false hk, decide_eq_false hne]; rfl
      have hm : ((its.toArray.size : Nat) : Int) * k ≤ 1000000 := by
        rw [hsz0]
        have : ((xs.length * k.toNat : Nat) : Int) = (xs.length : Int) * k := by
          rw [Int.natCast_mul, Int.toNat_of_nonneg (by omega)]
        omega
      have c4 : Builtin.Tuple.tupleTooMany (((its.toArray.size : Nat) : Int) * k) = false := by
        unfold Builtin.Tuple.tupleTooMany
        rw [sizeLine_eq]
        exact decide_eq_false (by omega)
      refine wpAny_binaryOp_repeat_ref (T := "tuple") (U := "int") (by decide) ⟨_, ho, rfl⟩ (fun s' => typeIs_int s' k t) noFill_tuple_mul F.fills_int_mul F.slot_int_rmul repeat_tuple F.slot_int_index.lookup
        (call_meets F.slot_int_rmul (typeIs_int s k t) F.entry_int_rmul (F.args_int_rmul_2 _ _) (int_rmul_tuple k t l its.toArray n dd sl)
          ⟨ho, rfl, ⟨_, ho, rfl⟩, call_meets F.slot_tuple_mul ⟨_, ho, rfl⟩ F.entry_tuple_mul (F.args_tuple_mul_2 _ _) (tuple_mulW l its.toArray n dd sl k t c0 c1 c2 (by omega) c4 (by rw [size_rep, List.size_toArray]; exact flen)) ⟨ho, ?_⟩⟩)
      rw [size_rep]
      refine ⟨.ref s.heap.objs.size, _, I.laid (t' := s.toks) (o := .tup (List.replicate k.toNat xs).flatten) (fun b ob q => Heap.get?_push_of_some _ q) (Nat.le_refl _) ?_, rfl, q2 hw _ (I.hok.fresh (Nat.le_refl _))⟩
      exact ⟨by rw [PyProof.Rows.lm_len_rep_flat, Nat.mul_comm]; exact Nat.le_trans hz (by decide), _, r.rep k.toNat, IsTup.new _ _⟩
end
section
variable {X : Cx} {S : Type} {B : Bs} {Γ : S → List Sl} {K : PySem.W.Frag} {α β : Type} {R : α → Pd} {a b e : Expr} {pos : Pos}
theorem te_repT {ma : S → (List α → S → Prop) → Prop} {mb : S → (Int → S → Prop) → Prop} (ha : PE X a (tE B Γ (RTup K R) ma)) (hb : PE X b (tE B Γ RInt mb)) (hK : X.K = K := by rfl) :
    PE X (.BinOp a .Mult b pos) (tE B Γ (RTup K R) (fun s K => ma s fun x s1 => mb s1 fun y s2 => (-(2 ^ 63) ≤ y ∧ y < 2 ^ 63 ∧ x.length * y.toNat ≤ 1000000) ∧ K (pyRep x y) s2)) := by
  subst hK
  refine pe_imp (pe_op op_repA ha hb) fun σ H Q ⟨s, F, K', A, hm, k⟩ => ⟨s, F, _, A, hm, fun xs s1 v F1 H1 h1 A1 e1 r1 => ⟨s1, F1, _, A1, h1, fun y s2 w F2 H2 ⟨hc, h2⟩ A2 e2 r2 => ?_⟩⟩
  obtain ⟨q1, vs, rfl, hq, av⟩ := r1
  have hq := seqT_mono e2 hq
  have av := av.mono e2
  rw [show w = V.int y from r2]
  refine ⟨q1, y, vs, rfl, rfl, seqT_mono A2.sub hq, hc.1, hc.2.1, by rw [av.len]; exact hc.2.2, fun z => ?_, fun _ p np => ?_⟩
  · have ep : pyRep xs y = xs := by
      rcases z with z | z
      · have : xs = [] := List.eq_nil_of_length_eq_zero (by rw [← av.len, z]; rfl)
        subst this
        unfold pyRep
        exact List.flatten_eq_nil_iff.mpr fun l hl => (List.mem_replicate.mp hl).2
      · subst z
        unfold pyRep
        show (List.replicate 1 xs).flatten = xs
        simp
    refine k _ s2 (.ref q1) F2 H2 h2 A2 (e1.trans e2) ?_
    rw [ep]
    exact ⟨q1, vs, rfl, hq, av⟩
  · obtain ⟨A3, e3⟩ := A2.lay (o := .tup (List.replicate y.toNat vs).flatten) np
    exact k _ s2 _ _ _ h2 A3 ((e1.trans e2).trans e3) ⟨p, _, rfl, SqT.of upd_same, (av.rep _).mono e3⟩
end
theorem units65 {k : Nat} {A : Around} (r : Room k A) : A.units + 65 < cLine := by have := r.un; omega
/-- what is gone on with -/
def mB {α S : Type} (f : (α → S → Prop) → Prop) (k : α → S → Prop) : Prop := f k
theorem mB_of {α S : Type} {f : (α → S → Prop) → Prop} {k : α → S → Prop} (P : α → S → Prop) (h : ∀ K : α → S → Prop, (∀ v s, P v s → K v s) → f K) (hk : ∀ v s, P v s → k v s) : mB f k := h k hk
theorem memB_true {α : Type} [DecidableEq α] {x : α} {xs : List α} (h : x ∈ xs) : memB x xs = true := decide_eq_true h
theorem memB_iff {α : Type} [DecidableEq α] {x : α} {xs : List α} : memB x xs = true ↔ x ∈ xs := decide_eq_true_iff
theorem kit_self {K : PySem.W.Frag} {C : Addr} : PySem.W.kitOne K (.ref C) (.ref C) = some true := by
  unfold PySem.W.kitOne
  rw [if_pos]
  show (Value.ref C == Value.ref C) = true
  exact beq_self_eq_true (α := Value) _
end TL
namespace G
open PySem L2 TL

def top (i : Nat) : Stmt := PySem.Challenge.pw_handlerims_k05_shortened_in_one_way.main.body.getD i (.Pass ⟨0, 0, 0, 0⟩)
abbrev s_l_jar : Stmt := (top 31)
abbrev s_l_draw : Stmt := (top 32)
abbrev s_l_pick : Stmt := (top 33)
abbrev s_l_letters : Stmt := (top 34)
abbrev s_l_put_in : Stmt := (top 38)
abbrev s_l_contrary : Stmt := (top 35)
abbrev s_is_listed : Stmt := (top 13)
abbrev s_is_integer : Stmt := (top 10)
abbrev s_is_within : Stmt := (top 11)
abbrev s_is_letter : Stmt := (top 12)
abbrev s_are_letters : Stmt := (top 14)
abbrev s_need_few : Stmt := (top 27)
abbrev s_are_short : Stmt := (top 26)
abbrev s_rounded_of : Stmt := (top 25)
abbrev s_Word___init__ : Stmt := (inClass (top 29) 0)
abbrev s_l_taken_out : Stmt := (top 36)
abbrev s_shortened_of : Stmt := (top 24)
abbrev s_Word_shortened : Stmt := (inClass (top 29) 4)
abbrev s_Word_shortened_round : Stmt := (inClass (top 29) 5)
abbrev s_l_ends_off : Stmt := (top 37)
abbrev s_Word___eq__ : Stmt := (inClass (top 29) 11)
abbrev s_contrary_of : Stmt := (top 23)
abbrev s_Word_contrary : Stmt := (inClass (top 29) 3)
abbrev s_need_word : Stmt := (top 28)
abbrev s_Word_then : Stmt := (inClass (top 29) 7)
abbrev s_l_short_right : Stmt := (top 39)
abbrev s_need_number : Stmt := (top 15)
abbrev s_Word_times : Stmt := (inClass (top 29) 8)
abbrev s_l_behind_right : Stmt := (top 40)
abbrev s_l_core_right : Stmt := (top 41)
abbrev s_l_great_right : Stmt := (top 42)
abbrev s_law : Stmt := (top 43)
theorem sc_l_jar : FnScope ["_law_script", "_law_cell"] ["_law_script"] (defScope s_l_jar) := ⟨rfl, rfl, rfl, by decide +kernel, rfl, by decide +kernel, by decide +kernel⟩
theorem sc_l_draw : FnScope ["_law_jar_here", "_law_many", "_law_rest", "_law_at", "_law_cell", "_law_mixed"] ["_law_jar_here", "_law_many"] (defScope s_l_draw) := ⟨rfl, rfl, rfl, by decide +kernel, rfl, by decide +kernel, by decide +kernel⟩
theorem sc_l_pick : FnScope ["_law_jar_here", "_law_some"] ["_law_jar_here", "_law_some"] (defScope s_l_pick) := ⟨rfl, rfl, rfl, by decide +kernel, rfl, by decide +kernel, by decide +kernel⟩
theorem sc_l_letters : FnScope ["_law_jar_here", "_law_many", "_law_kinds", "_law_found", "_law_turn", "_law_kind"] ["_law_jar_here", "_law_many", "_law_kinds"] (defScope s_l_letters) := ⟨rfl, rfl, rfl, by decide +kernel, rfl, by decide +kernel, by decide +kernel⟩
theorem sc_l_put_in : FnScope ["_law_jar_here", "_law_letters_here", "_law_many", "_law_kinds", "_law_found", "_law_turn", "_law_at", "_law_two"] ["_law_jar_here", "_law_letters_here", "_law_many", "_law_kinds"] (defScope s_l_put_in) := ⟨rfl, rfl, rfl, by decide +kernel, rfl, by decide +kernel, by decide +kernel⟩
theorem sc_l_contrary : FnScope ["_law_letters_here", "_law_letter"] ["_law_letters_here"] (defScope s_l_contrary) := ⟨rfl, rfl, rfl, by decide +kernel, rfl, by decide +kernel, by decide +kernel⟩
theorem sc_is_listed : FnScope ["value"] ["value"] (defScope s_is_listed) := ⟨rfl, rfl, rfl, by decide +kernel, rfl, by decide +kernel, by decide +kernel⟩
theorem sc_is_integer : FnScope ["value"] ["value"] (defScope s_is_integer) := ⟨rfl, rfl, rfl, by decide +kernel, rfl, by decide +kernel, by decide +kernel⟩
theorem sc_is_within : FnScope ["value", "least", "most"] ["value", "least", "most"] (defScope s_is_within) := ⟨rfl, rfl, rfl, by decide +kernel, rfl, by decide +kernel, by decide +kernel⟩
theorem sc_is_letter : FnScope ["value"] ["value"] (defScope s_is_letter) := ⟨rfl, rfl, rfl, by decide +kernel, rfl, by decide +kernel, by decide +kernel⟩
theorem sc_are_letters : FnScope ["value", "each"] ["value"] (defScope s_are_letters) := ⟨rfl, rfl, rfl, by decide +kernel, rfl, by decide +kernel, by decide +kernel⟩
theorem sc_need_few : FnScope ["many"] ["many"] (defScope s_need_few) := ⟨rfl, rfl, rfl, by decide +kernel, rfl, by decide +kernel, by decide +kernel⟩
theorem sc_are_short : FnScope ["letters", "one", "other"] ["letters"] (defScope s_are_short) := ⟨rfl, rfl, rfl, by decide +kernel, rfl, by decide +kernel, by decide +kernel⟩
theorem sc_rounded_of : FnScope ["letters", "many", "at"] ["letters"] (defScope s_rounded_of) := ⟨rfl, rfl, rfl, by decide +kernel, rfl, by decide +kernel, by decide +kernel⟩
theorem sc_Word___init__ : FnScope ["self", "letters", "letter"] ["self", "letters"] (defScope s_Word___init__) := ⟨rfl, rfl, rfl, by decide +kernel, rfl, by decide +kernel, by decide +kernel⟩
theorem sc_l_taken_out : FnScope ["_law_jar_here", "_law_letters_here", "_law_left", "_law_spots", "_law_spot", "_law_at"] ["_law_jar_here", "_law_letters_here"] (defScope s_l_taken_out) := ⟨rfl, rfl, rfl, by decide +kernel, rfl, by decide +kernel, by decide +kernel⟩
theorem sc_shortened_of : FnScope ["letters", "found", "letter"] ["letters"] (defScope s_shortened_of) := ⟨rfl, rfl, rfl, by decide +kernel, rfl, by decide +kernel, by decide +kernel⟩
theorem sc_Word_shortened : FnScope ["self"] ["self"] (defScope s_Word_shortened) := ⟨rfl, rfl, rfl, by decide +kernel, rfl, by decide +kernel, by decide +kernel⟩
theorem sc_Word_shortened_round : FnScope ["self"] ["self"] (defScope s_Word_shortened_round) := ⟨rfl, rfl, rfl, by decide +kernel, rfl, by decide +kernel, by decide +kernel⟩
theorem sc_l_ends_off : FnScope ["_law_letters_here", "_law_left"] ["_law_letters_here"] (defScope s_l_ends_off) := ⟨rfl, rfl, rfl, by decide +kernel, rfl, by decide +kernel, by decide +kernel⟩
theorem sc_Word___eq__ : FnScope ["self", "other"] ["self", "other"] (defScope s_Word___eq__) := ⟨rfl, rfl, rfl, by decide +kernel, rfl, by decide +kernel, by decide +kernel⟩
theorem sc_contrary_of : FnScope ["letters", "letter"] ["letters"] (defScope s_contrary_of) := ⟨rfl, rfl, rfl, by decide +kernel, rfl, by decide +kernel, by decide +kernel⟩
theorem sc_Word_contrary : FnScope ["self"] ["self"] (defScope s_Word_contrary) := ⟨rfl, rfl, rfl, by decide +kernel, rfl, by decide +kernel, by decide +kernel⟩
theorem sc_need_word : FnScope ["value", "part"] ["value", "part"] (defScope s_need_word) := ⟨rfl, rfl, rfl, by decide +kernel, rfl, by decide +kernel, by decide +kernel⟩
theorem sc_Word_then : FnScope ["self", "other"] ["self", "other"] (defScope s_Word_then) := ⟨rfl, rfl, rfl, by decide +kernel, rfl, by decide +kernel, by decide +kernel⟩
theorem sc_l_short_right : FnScope ["_law_jar_here", "_law_letters_here", "_law_word", "_law_due", "_law_short", "_law_bare"] ["_law_jar_here", "_law_letters_here"] (defScope s_l_short_right) := ⟨rfl, rfl, rfl, by decide +kernel, rfl, by decide +kernel, by decide +kernel⟩
theorem sc_need_number : FnScope ["value", "part", "least", "most"] ["value", "part", "least", "most"] (defScope s_need_number) := ⟨rfl, rfl, rfl, by decide +kernel, rfl, by decide +kernel, by decide +kernel⟩
theorem sc_Word_times : FnScope ["self", "number", "letters"] ["self", "number"] (defScope s_Word_times) := ⟨rfl, rfl, rfl, by decide +kernel, rfl, by decide +kernel, by decide +kernel⟩
theorem sc_l_behind_right : FnScope ["_law_jar_here", "_law_letters_here", "_law_others", "_law_word", "_law_other", "_law_whole", "_law_number", "_law_moved", "_law_bare", "_law_at"] ["_law_jar_here", "_law_letters_here", "_law_others"] (defScope s_l_behind_right) := ⟨rfl, rfl, rfl, by decide +kernel, rfl, by decide +kernel, by decide +kernel⟩
theorem sc_l_core_right : FnScope ["_law_jar_here", "_law_letters_here", "_law_due", "_law_bare", "_law_end", "_law_number", "_law_told"] ["_law_jar_here", "_law_letters_here"] (defScope s_l_core_right) := ⟨rfl, rfl, rfl, by decide +kernel, rfl, by decide +kernel, by decide +kernel⟩
theorem sc_l_great_right : FnScope ["_law_jar_here", "_law_half", "_law_middle", "_law_word", "_law_due", "_law_found", "_law_letter"] ["_law_jar_here"] (defScope s_l_great_right) := ⟨rfl, rfl, rfl, by decide +kernel, rfl, by decide +kernel, by decide +kernel⟩
theorem sc_law : FnScope ["_law_script", "_law_jar_here", "_law_lap", "_law_kinds", "_law_letters_here", "_law_ahead", "_law_others"] ["_law_script"] (defScope s_law) := ⟨rfl, rfl, rfl, by decide +kernel, rfl, by decide +kernel, by decide +kernel⟩
structure Tx (K : PySem.W.Frag) (mg : Str → Option Value) where
  a_l_jar : Addr
  d_l_jar : FuncData
  F_l_jar : Fun K "_law_jar" "_law_jar" s_l_jar a_l_jar d_l_jar
  b_l_jar : Binds K d_l_jar ["_law_script"] []
  g_l_jar : mg "_law_jar" = some (.ref a_l_jar)
  a_l_draw : Addr
  d_l_draw : FuncData
  F_l_draw : Fun K "_law_draw" "_law_draw" s_l_draw a_l_draw d_l_draw
  b_l_draw : Binds K d_l_draw ["_law_jar_here", "_law_many"] []
  g_l_draw : mg "_law_draw" = some (.ref a_l_draw)
  a_l_pick : Addr
  d_l_pick : FuncData
  F_l_pick : Fun K "_law_pick" "_law_pick" s_l_pick a_l_pick d_l_pick
  b_l_pick : Binds K d_l_pick ["_law_jar_here", "_law_some"] []
  g_l_pick : mg "_law_pick" = some (.ref a_l_pick)
  a_l_letters : Addr
  d_l_letters : FuncData
  F_l_letters : Fun K "_law_letters" "_law_letters" s_l_letters a_l_letters d_l_letters
  b_l_letters : Binds K d_l_letters ["_law_jar_here", "_law_many", "_law_kinds"] []
  g_l_letters : mg "_law_letters" = some (.ref a_l_letters)
  a_l_put_in : Addr
  d_l_put_in : FuncData
  F_l_put_in : Fun K "_law_put_in" "_law_put_in" s_l_put_in a_l_put_in d_l_put_in
  b_l_put_in : Binds K d_l_put_in ["_law_jar_here", "_law_letters_here", "_law_many", "_law_kinds"] []
  g_l_put_in : mg "_law_put_in" = some (.ref a_l_put_in)
  a_l_contrary : Addr
  d_l_contrary : FuncData
  F_l_contrary : Fun K "_law_contrary" "_law_contrary" s_l_contrary a_l_contrary d_l_contrary
  b_l_contrary : Binds K d_l_contrary ["_law_letters_here"] []
  g_l_contrary : mg "_law_contrary" = some (.ref a_l_contrary)
  a_is_listed : Addr
  d_is_listed : FuncData
  F_is_listed : Fun K "is_listed" "is_listed" s_is_listed a_is_listed d_is_listed
  b_is_listed : Binds K d_is_listed ["value"] []
  g_is_listed : mg "is_listed" = some (.ref a_is_listed)
  a_is_integer : Addr
  d_is_integer : FuncData
  F_is_integer : Fun K "is_integer" "is_integer" s_is_integer a_is_integer d_is_integer
  b_is_integer : Binds K d_is_integer ["value"] []
  g_is_integer : mg "is_integer" = some (.ref a_is_integer)
  a_is_within : Addr
  d_is_within : FuncData
  F_is_within : Fun K "is_within" "is_within" s_is_within a_is_within d_is_within
  b_is_within : Binds K d_is_within ["value", "least", "most"] []
  g_is_within : mg "is_within" = some (.ref a_is_within)
  a_is_letter : Addr
  d_is_letter : FuncData
  F_is_letter : Fun K "is_letter" "is_letter" s_is_letter a_is_letter d_is_letter
  b_is_letter : Binds K d_is_letter ["value"] []
  g_is_letter : mg "is_letter" = some (.ref a_is_letter)
  a_are_letters : Addr
  d_are_letters : FuncData
  F_are_letters : Fun K "are_letters" "are_letters" s_are_letters a_are_letters d_are_letters
  b_are_letters : Binds K d_are_letters ["value"] []
  g_are_letters : mg "are_letters" = some (.ref a_are_letters)
  a_need_few : Addr
  d_need_few : FuncData
  F_need_few : Fun K "need_few" "need_few" s_need_few a_need_few d_need_few
  b_need_few : Binds K d_need_few ["many"] []
  g_need_few : mg "need_few" = some (.ref a_need_few)
  a_are_short : Addr
  d_are_short : FuncData
  F_are_short : Fun K "are_short" "are_short" s_are_short a_are_short d_are_short
  b_are_short : Binds K d_are_short ["letters"] []
  g_are_short : mg "are_short" = some (.ref a_are_short)
  a_rounded_of : Addr
  d_rounded_of : FuncData
  F_rounded_of : Fun K "rounded_of" "rounded_of" s_rounded_of a_rounded_of d_rounded_of
  b_rounded_of : Binds K d_rounded_of ["letters"] []
  g_rounded_of : mg "rounded_of" = some (.ref a_rounded_of)
  a_Word___init__ : Addr
  d_Word___init__ : FuncData
  F_Word___init__ : Fun K "__init__" "Word.__init__" s_Word___init__ a_Word___init__ d_Word___init__
  b_Word___init__ : Binds K d_Word___init__ ["self", "letters"] []
  a_l_taken_out : Addr
  d_l_taken_out : FuncData
  F_l_taken_out : Fun K "_law_taken_out" "_law_taken_out" s_l_taken_out a_l_taken_out d_l_taken_out
  b_l_taken_out : Binds K d_l_taken_out ["_law_jar_here", "_law_letters_here"] []
  g_l_taken_out : mg "_law_taken_out" = some (.ref a_l_taken_out)
  a_shortened_of : Addr
  d_shortened_of : FuncData
  F_shortened_of : Fun K "shortened_of" "shortened_of" s_shortened_of a_shortened_of d_shortened_of
  b_shortened_of : Binds K d_shortened_of ["letters"] []
  g_shortened_of : mg "shortened_of" = some (.ref a_shortened_of)
  a_Word_shortened : Addr
  d_Word_shortened : FuncData
  F_Word_shortened : Fun K "shortened" "Word.shortened" s_Word_shortened a_Word_shortened d_Word_shortened
  b_Word_shortened : Binds K d_Word_shortened ["self"] []
  a_Word_shortened_round : Addr
  d_Word_shortened_round : FuncData
  F_Word_shortened_round : Fun K "shortened_round" "Word.shortened_round" s_Word_shortened_round a_Word_shortened_round d_Word_shortened_round
  b_Word_shortened_round : Binds K d_Word_shortened_round ["self"] []
  a_l_ends_off : Addr
  d_l_ends_off : FuncData
  F_l_ends_off : Fun K "_law_ends_off" "_law_ends_off" s_l_ends_off a_l_ends_off d_l_ends_off
  b_l_ends_off : Binds K d_l_ends_off ["_law_letters_here"] []
  g_l_ends_off : mg "_law_ends_off" = some (.ref a_l_ends_off)
  a_Word___eq__ : Addr
  d_Word___eq__ : FuncData
  F_Word___eq__ : Fun K "__eq__" "Word.__eq__" s_Word___eq__ a_Word___eq__ d_Word___eq__
  b_Word___eq__ : Binds K d_Word___eq__ ["self", "other"] []
  a_contrary_of : Addr
  d_contrary_of : FuncData
  F_contrary_of : Fun K "contrary_of" "contrary_of" s_contrary_of a_contrary_of d_contrary_of
  b_contrary_of : Binds K d_contrary_of ["letters"] []
  g_contrary_of : mg "contrary_of" = some (.ref a_contrary_of)
  a_Word_contrary : Addr
  d_Word_contrary : FuncData
  F_Word_contrary : Fun K "contrary" "Word.contrary" s_Word_contrary a_Word_contrary d_Word_contrary
  b_Word_contrary : Binds K d_Word_contrary ["self"] []
  a_need_word : Addr
  d_need_word : FuncData
  F_need_word : Fun K "need_word" "need_word" s_need_word a_need_word d_need_word
  b_need_word : Binds K d_need_word ["value", "part"] []
  g_need_word : mg "need_word" = some (.ref a_need_word)
  a_Word_then : Addr
  d_Word_then : FuncData
  F_Word_then : Fun K "then" "Word.then" s_Word_then a_Word_then d_Word_then
  b_Word_then : Binds K d_Word_then ["self", "other"] []
  a_l_short_right : Addr
  d_l_short_right : FuncData
  F_l_short_right : Fun K "_law_short_right" "_law_short_right" s_l_short_right a_l_short_right d_l_short_right
  b_l_short_right : Binds K d_l_short_right ["_law_jar_here", "_law_letters_here"] []
  g_l_short_right : mg "_law_short_right" = some (.ref a_l_short_right)
  a_need_number : Addr
  d_need_number : FuncData
  F_need_number : Fun K "need_number" "need_number" s_need_number a_need_number d_need_number
  b_need_number : Binds K d_need_number ["value", "part", "least", "most"] []
  g_need_number : mg "need_number" = some (.ref a_need_number)
  a_Word_times : Addr
  d_Word_times : FuncData
  F_Word_times : Fun K "times" "Word.times" s_Word_times a_Word_times d_Word_times
  b_Word_times : Binds K d_Word_times ["self", "number"] []
  a_l_behind_right : Addr
  d_l_behind_right : FuncData
  F_l_behind_right : Fun K "_law_behind_right" "_law_behind_right" s_l_behind_right a_l_behind_right d_l_behind_right
  b_l_behind_right : Binds K d_l_behind_right ["_law_jar_here", "_law_letters_here", "_law_others"] []
  g_l_behind_right : mg "_law_behind_right" = some (.ref a_l_behind_right)
  a_l_core_right : Addr
  d_l_core_right : FuncData
  F_l_core_right : Fun K "_law_core_right" "_law_core_right" s_l_core_right a_l_core_right d_l_core_right
  b_l_core_right : Binds K d_l_core_right ["_law_jar_here", "_law_letters_here"] []
  g_l_core_right : mg "_law_core_right" = some (.ref a_l_core_right)
  a_l_great_right : Addr
  d_l_great_right : FuncData
  F_l_great_right : Fun K "_law_great_right" "_law_great_right" s_l_great_right a_l_great_right d_l_great_right
  b_l_great_right : Binds K d_l_great_right ["_law_jar_here"] []
  g_l_great_right : mg "_law_great_right" = some (.ref a_l_great_right)
  a_law : Addr
  d_law : FuncData
  F_law : Fun K "law" "law" s_law a_law d_law
  b_law : Binds K d_law ["_law_script"] []
  g_law : mg "law" = some (.ref a_law)
  C_Word : Addr
  g_Word : mg "Word" = some (.ref C_Word)
  cls_Word : Cls K C_Word
  mk_Word : Mk K C_Word a_Word___init__
  na_Word_is_short : NoAttr K C_Word "is_short"
  na_Word_is_short_round : NoAttr K C_Word "is_short_round"
  na_Word_kinds : NoAttr K C_Word "kinds"
  na_Word_length : NoAttr K C_Word "length"
  na_Word_letters : NoAttr K C_Word "letters"
  me_Word_contrary : Meth K C_Word "contrary" a_Word_contrary
  me_Word_shortened : Meth K C_Word "shortened" a_Word_shortened
  me_Word_shortened_round : Meth K C_Word "shortened_round" a_Word_shortened_round
  me_Word_then : Meth K C_Word "then" a_Word_then
  me_Word_times : Meth K C_Word "times" a_Word_times
  isc_Word : C8.InsC K C_Word
  eq_Word : PySem.W.findIn K (.ref C_Word) "__eq__" = some (some (.ref a_Word___eq__))
  eqf_Word : PySem.W.isFn K (.ref a_Word___eq__) = true
  ne_Word : PySem.W.findIn K (.ref C_Word) "__ne__" = some (some (.builtin "object.__ne__"))
  z_abs : mg "abs" = none
  z_all : mg "all" = none
  z_bool : mg "bool" = none
  z_int : mg "int" = none
  z_isinstance : mg "isinstance" = none
  z_len : mg "len" = none
  z_list : mg "list" = none
  z_range : mg "range" = none
  z_sorted : mg "sorted" = none
  z_tuple : mg "tuple" = none
  z_zip : mg "zip" = none
  c_LAST_KIND : ∃ t, mg "LAST_KIND" = some (.int 26 t)
  c_MOST_LETTERS : ∃ t, mg "MOST_LETTERS" = some (.int 500 t)
section
variable {P : Program} {w : World} {K : PySem.W.Frag} {mg : Str → Option Value} {base : Heap}
def m_l_jar (p_l_script : (List Int)) (Kf : Jar → Prop) : Prop :=
  ((pyCut p_l_script none (some (60 : Int))).length ≤ 1000000 ∧ mMap (pyCut p_l_script none (some (60 : Int))) (fun (x1 : Int) K3 => K3 x1) fun ys4 => Kf (ys4, (0 : Int), (0 : Int)))
theorem ok_l_jar (T : Tx K mg) : FnOk P w K mg base CX0 1 T.a_l_jar T.d_l_jar ["_law_script"] (spO OJar (acons (RList K RInt) anil) (fun (y : (List Int) × Unit) Kf => m_l_jar y.1 Kf)) :=
  fnO T.F_l_jar sc_l_jar (fun _ => rfl) fun cdv A outer s H E hr y Kf B => ts_use (
  (ts_retJar (te_lst (tn_map sc_l_jar.nd (ti_list (K := K) (te_known (K := K) (tn_cut (te_var 0 (R := (RList K RInt)) (f := fun (s : Unit) => y.1)) to_none (to_some te_int)))) (blkOk_by (own := [("_law_cell", 1)]) (N := ["_law_script", "_law_cell"]) (sc := defScope s_l_jar) (by decide +kernel)) (fun _ _ _ _ _ => (pg_name (i := 1) sc_l_jar.nd rfl (Or.inl rfl))) (tg_name 1) (fun s2 x1 B' s H C cl fp => (te_toint (bp_int T.z_int) (te_var 1 (R := RInt) (f := fun (s : Unit) => x1)))))) te_int te_int)) (by exact fun _ h => h)
def m_l_draw (p_l_many : Int) (t : Jar) (Kf : Int → Jar → Prop) : Prop :=
  (if (decide ((0 : Int) < t.2.2)) = true then (CDivN t.2.2 p_l_many ∧ (p_l_many ≠ 0 ∧ Kf (t.2.2.fmod p_l_many) (t.1, t.2.1, (t.2.2.fdiv p_l_many)))) else
  (CMul (51131 : Int) t.2.1 ∧ (fun (l_cell9 : Int) => (([] : List Int).length ≤ 1000000 ∧ mIf (!decide ((t.1, (t.2.1 + (1 : Int)), t.2.2).1 = ([] : List Int))) (fun (Kn11 : Jar × Int → Prop) => ((((t.1, (t.2.1 + (1 : Int)), t.2.2).1).length : Int) ≠ 0 ∧ (∃ v18, pyAt ((t.1, (t.2.1 + (1 : Int)), t.2.2).1) (t.2.1.fmod (((t.1, (t.2.1 + (1 : Int)), t.2.2).1).length : Int)) = some v18 ∧ Kn11 ((t.1, (t.2.1 + (1 : Int)), t.2.2), v18)))) (fun (Kn12 : Jar × Int → Prop) => Kn12 ((t.1, (t.2.1 + (1 : Int)), t.2.2), l_cell9)) (fun (s17 : Jar × Int) =>
  mB (fun (K19 : Bool → Jar × Int → Prop) => (if (decide (t.2.1 < (s17.1.1.length : Int))) = true then (CPow (10 : Int) (18 : Int) ∧ K19 (decide (((10 : Int) ^ (18 : Int).toNat) ≤ (s17.2.natAbs : Int))) (s17.1, s17.2)) else K19 false (s17.1, s17.2))) (fun b20 s21 => (if b20 = true then (CPow (10 : Int) (18 : Int) ∧ (CMul (2 : Int) ((s21.2.natAbs : Int) - ((10 : Int) ^ (18 : Int).toNat)) ∧ (fun (l_rest14 : Int) => (CDivN l_rest14 p_l_many ∧ (p_l_many ≠ 0 ∧ Kf (l_rest14.fmod p_l_many) (s21.1.1, s21.1.2.1, (l_rest14.fdiv p_l_many))))) (((2 : Int) * ((s21.2.natAbs : Int) - ((10 : Int) ^ (18 : Int).toNat))) + (if (decide (s21.2 < (0 : Int))) then 1 else 0)))) else
  ((2147483587 : Int) ≠ 0 ∧ (CMul (33311 : Int) t.2.1 ∧ (CPow (((s21.2.fmod (2147483587 : Int)) + ((33311 : Int) * t.2.1)) + (6029 : Int)) (5 : Int) ∧ ((2147483629 : Int) ≠ 0 ∧ (fun (l_mixed15 : Int) => (CMul (2 : Int) t.2.1 ∧ (CMul l_mixed15 (((2 : Int) * t.2.1) + (1823 : Int)) ∧ (CMul (51131 : Int) t.2.1 ∧ (CMul ((51131 : Int) * t.2.1) t.2.1 ∧ (CPow (((l_mixed15 * (((2 : Int) * t.2.1) + (1823 : Int))) + (((51131 : Int) * t.2.1) * t.2.1)) + (44119 : Int)) (3 : Int) ∧ ((2147483549 : Int) ≠ 0 ∧ (fun (l_mixed16 : Int) => (CDivN l_mixed16 (64 : Int) ∧ (p_l_many ≠ 0 ∧ Kf ((l_mixed16.fdiv (64 : Int)).fmod p_l_many) s21.1))) (((((l_mixed15 * (((2 : Int) * t.2.1) + (1823 : Int))) + (((51131 : Int) * t.2.1) * t.2.1)) + (44119 : Int)) ^ (3 : Int).toNat).fmod (2147483549 : Int))))))))) (((((s21.2.fmod (2147483587 : Int)) + ((33311 : Int) * t.2.1)) + (6029 : Int)) ^ (5 : Int).toNat).fmod (2147483629 : Int))))))))))) (((51131 : Int) * t.2.1) + (6029 : Int))))
theorem ok_l_draw (T : Tx K mg) : FnOk P w K mg base CX0 1 T.a_l_draw T.d_l_draw ["_law_jar_here", "_law_many"] (spB OJar (acons RInt anil) RInt (fun (y : Int × Unit) t Kf => m_l_draw y.1 t Kf)) :=
  fnB T.F_l_draw sc_l_draw (fun _ => rfl) fun cdv A outer s H E hr j y Kf B => ts_use (
  (ts_ifr (tt_c cr_gt (te_jar2 0 (fun (s : Jar) => s)) te_int)
  (ts_set (i := 2) (R := RInt) (ps_set sc_l_draw.nd rfl (Or.inl rfl) (te_toint (bp_int T.z_int) (te_jar2 0 (fun (s : Jar) => s)))) (fun l_rest7 =>
  (ts_jar2 0 (fun (s : Jar) => s) (fun (s : Jar) t => t) (te_fdiv (te_var 2 (R := RInt) (f := fun (s : Jar) => l_rest7)) (te_var 1 (R := RInt) (f := fun (s : Jar) => y.1)))
  (ts_retB 0 (fun (s : Jar) => s) (te_mod (te_toint (bp_int T.z_int) (te_var 2 (R := RInt) (f := fun (s : Jar) => l_rest7))) (te_var 1 (R := RInt) (f := fun (s : Jar) => y.1)))))))
  (ts_set (i := 3) (R := RInt) (ps_set sc_l_draw.nd rfl (Or.inl rfl) (te_jar1 0 (fun (s : Jar) => s))) (fun l_at8 =>
  (ts_jar1 0 (fun (s : Jar) => s) (fun (s : Jar) t => t) (te_add (te_var 3 (R := RInt) (f := fun (s : Jar) => l_at8)) te_int)
  (ts_set (i := 4) (R := RInt) (ps_set sc_l_draw.nd rfl (Or.inl rfl) (te_add (te_mul te_int (te_var 3 (R := RInt) (f := fun (s : Jar) => l_at8))) te_int)) (fun l_cell9 =>
  (ts_if (Γj := fun s : Jar × Int => [.bo j (OJar s.1), .im (RInt y.1), .any, .im (RInt l_at8), .im (RInt s.2), .any]) (tt_c (cr_neD (K := K) rfl hr.units (dat_lst dat_int)) (te_jar0 0 (fun (s : Jar) => s)) (te_lst (tn_list (R := RInt) tl_nil)))
  (fun Kn11 => (ts_set (i := 4) (R := RInt) (ps_set sc_l_draw.nd rfl (Or.inl rfl) (te_ixL (te_l (te_jar0 0 (fun (s : Jar) => s))) (te_mod (te_toint (bp_int T.z_int) (te_var 3 (R := RInt) (f := fun (s : Jar) => l_at8))) (te_len (bp_len T.z_len) lens_list (te_l (te_jar0 0 (fun (s : Jar) => s))))))) (fun l_cell13 =>
  (ts_end (Γj := fun s : Jar × Int => [.bo j (OJar s.1), .im (RInt y.1), .any, .im (RInt l_at8), .im (RInt s.2), .any]) (fun (s : Jar) => (s, l_cell13)) (fun s => (.same (.same (.drop (.same (.same (.drop .nil)))))))))))
  (fun Kn12 => (ts_end (Γj := fun s : Jar × Int => [.bo j (OJar s.1), .im (RInt y.1), .any, .im (RInt l_at8), .im (RInt s.2), .any]) (fun (s : Jar) => (s, l_cell9)) (fun s => (.same (.same (.drop (.same (.same (.drop .nil)))))))))
  (ts_ifr (tt_w (tw_and (tt_c cr_lt (te_var 3 (R := RInt) (f := fun (s : Jar × Int) => l_at8)) (te_len (bp_len T.z_len) lens_list (te_l (te_jar0 0 (fun (s : Jar × Int) => s.1))))) (tw_and1 (tt_c cr_ge (te_abs (bp_abs T.z_abs) (te_var 4 (R := RInt) (f := fun (s : Jar × Int) => s.2))) (te_pow te_int te_int)))))
  (ts_set (i := 2) (R := RInt) (ps_set sc_l_draw.nd rfl (Or.inl rfl) (te_add (te_mul te_int (te_sub (te_abs (bp_abs T.z_abs) (te_var 4 (R := RInt) (f := fun (s : Jar × Int) => s.2))) (te_pow te_int te_int))) (te_bint (bp_int T.z_int) (te_c cr_lt (te_var 4 (R := RInt) (f := fun (s : Jar × Int) => s.2)) te_int)))) (fun l_rest14 =>
  (ts_jar2 0 (fun (s : Jar × Int) => s.1) (fun (s : Jar × Int) t => (t, s.2)) (te_fdiv (te_toint (bp_int T.z_int) (te_var 2 (R := RInt) (f := fun (s : Jar × Int) => l_rest14))) (te_var 1 (R := RInt) (f := fun (s : Jar × Int) => y.1)))
  (ts_retB 0 (fun (s : Jar × Int) => s.1) (te_mod (te_toint (bp_int T.z_int) (te_var 2 (R := RInt) (f := fun (s : Jar × Int) => l_rest14))) (te_var 1 (R := RInt) (f := fun (s : Jar × Int) => y.1)))))))
  (ts_set (i := 5) (R := RInt) (ps_set sc_l_draw.nd rfl (Or.inl rfl) (te_mod (te_toint (bp_int T.z_int) (te_pow (te_add (te_add (te_mod (te_toint (bp_int T.z_int) (te_var 4 (R := RInt) (f := fun (s : Jar × Int) => s.2))) te_int) (te_mul te_int (te_var 3 (R := RInt) (f := fun (s : Jar × Int) => l_at8)))) te_int) te_int)) te_int)) (fun l_mixed15 =>
  (ts_set (i := 5) (R := RInt) (ps_set sc_l_draw.nd rfl (Or.inl rfl) (te_mod (te_toint (bp_int T.z_int) (te_pow (te_add (te_add (te_mul (te_var 5 (R := RInt) (f := fun (s : Jar × Int) => l_mixed15)) (te_add (te_mul te_int (te_var 3 (R := RInt) (f := fun (s : Jar × Int) => l_at8))) te_int)) (te_mul (te_mul te_int (te_var 3 (R := RInt) (f := fun (s : Jar × Int) => l_at8))) (te_var 3 (R := RInt) (f := fun (s : Jar × Int) => l_at8)))) te_int) te_int)) te_int)) (fun l_mixed16 =>
  (ts_retB 0 (fun (s : Jar × Int) => s.1) (te_mod (te_toint (bp_int T.z_int) (te_fdiv (te_var 5 (R := RInt) (f := fun (s : Jar × Int) => l_mixed16)) te_int)) (te_var 1 (R := RInt) (f := fun (s : Jar × Int) => y.1))))))))))))))))) (by exact fun _ h => h)
def m_l_pick (p_l_some : (List Int)) (t : Jar) (Kf : Int → Jar → Prop) : Prop :=
  m_l_draw (p_l_some.length : Int) t fun r24 t25 => (∃ v23, pyAt p_l_some r24 = some v23 ∧ Kf v23 t25)
theorem ok_l_pick (T : Tx K mg) : FnOk P w K mg base CX0 2 T.a_l_pick T.d_l_pick ["_law_jar_here", "_law_some"] (spB OJar (acons (RLst RInt) anil) RInt (fun (y : (List Int) × Unit) t Kf => m_l_pick y.1 t Kf)) :=
  fnB T.F_l_pick sc_l_pick (fun _ => rfl) fun cdv A outer s H E hr j y Kf B => ts_use (
  (ts_retB 0 (fun (s : Jar) => s) (te_ixL (te_l (te_var 1 (R := (RLst RInt)) (f := fun (s : Jar) => y.1))) (te_callB 0 (fun (s : Jar) => s) (fun (s : Jar) t => t) (ok_l_draw T) (hr.mono (by decide)) T.g_l_draw T.F_l_draw.kp T.b_l_draw (ta_cons (te_len (bp_len T.z_len) lens_list (te_l (te_var 1 (R := (RLst RInt)) (f := fun (s : Jar) => y.1)))) ta_nil))))) (by exact fun _ h => h)
def m_l_letters (p_l_many : Int) (p_l_kinds : Int) (t : Jar) (Kf : (List Int) → Jar → Prop) : Prop :=
  (([] : List Int).length ≤ 1000000 ∧ ((-(2 ^ 62) ≤ p_l_many ∧ p_l_many < 2 ^ 62) ∧ mFor (rangeL 0 p_l_many) (fun (l_turn26 : Int) (s29 : Jar × (List Int)) Kn27 => m_l_draw p_l_kinds s29.1 fun r31 t32 => (fun (l_kind28 : Int) => mB (fun (K33 : Int → Jar × (List Int) → Prop) => m_l_draw (2 : Int) t32 fun r36 t37 => (if (decide (r36 = (0 : Int))) = true then K33 l_kind28 (t37, s29.2) else K33 (-l_kind28) (t37, s29.2))) (fun v34 s35 => (s35.2.length ≤ 1000000 ∧ Kn27 (s35.1, (s35.2 ++ [v34]))))) ((1 : Int) + r31)) (t, ([] : List Int)) (fun (s30 : Jar × (List Int)) =>
  Kf s30.2 s30.1)))
theorem ok_l_letters (T : Tx K mg) : FnOk P w K mg base CX0 2 T.a_l_letters T.d_l_letters ["_law_jar_here", "_law_many", "_law_kinds"] (spB OJar (acons RInt (acons RInt anil)) (RLst RInt) (fun (y : Int × Int × Unit) t Kf => m_l_letters y.1 y.2.1 t Kf)) :=
  fnB T.F_l_letters sc_l_letters (fun _ => rfl) fun cdv A outer s H E hr j y Kf B => ts_use (
  (ts_setO (i := 3) (Γ' := fun (s : Jar × (List Int)) => [.bo j (OJar s.1), .im (RInt y.1), .im (RInt y.2.1), .ow (OList RInt s.2), .any, .any]) (mk := fun (s : Jar) y => (s, y)) (ps_set sc_l_letters.nd rfl (Or.inl rfl) (tn_list (R := RInt) tl_nil)) (fun _ _ => rfl)
  (ts_for (Γh := fun s : Jar × (List Int) => [.bo j (OJar s.1), .im (RInt y.1), .im (RInt y.2.1), .ow (OList RInt s.2), .any, .any]) (fun (s : Jar × (List Int)) => (s.1, s.2)) (fun s => (.same (.same (.same (.same (.drop (.drop .nil))))))) (ti_range1 T.z_range (te_var 1 (R := RInt) (f := fun (s : Jar × (List Int)) => y.1))) (pg_name (i := 4) sc_l_letters.nd rfl (Or.inl rfl)) (tg_name 4)
  (fun q l_turn26 Kn27 => (ts_set (i := 5) (R := RInt) (ps_set sc_l_letters.nd rfl (Or.inl rfl) (te_add te_int (te_callB 0 (fun (s : Jar × (List Int)) => s.1) (fun (s : Jar × (List Int)) t => (t, s.2)) (ok_l_draw T) (hr.mono (by decide)) T.g_l_draw T.F_l_draw.kp T.b_l_draw (ta_cons (te_var 2 (R := RInt) (f := fun (s : Jar × (List Int)) => y.2.1)) ta_nil)))) (fun l_kind28 =>
  (ts_expr (te_append 3 (fun (s : Jar × (List Int)) => s.2) (fun (s : Jar × (List Int)) t => (s.1, t)) (R := RInt) (te_if (tt_c (cr_eq flat_int) (te_callB 0 (fun (s : Jar × (List Int)) => s.1) (fun (s : Jar × (List Int)) t => (t, s.2)) (ok_l_draw T) (hr.mono (by decide)) T.g_l_draw T.F_l_draw.kp T.b_l_draw (ta_cons te_int ta_nil)) te_int) (te_var 5 (R := RInt) (f := fun (s : Jar × (List Int)) => l_kind28)) (te_neg (te_var 5 (R := RInt) (f := fun (s : Jar × (List Int)) => l_kind28)))))
  (ts_end (Γj := fun s : Jar × (List Int) => [.bo j (OJar s.1), .im (RInt y.1), .im (RInt y.2.1), .ow (OList RInt s.2), .any, .any]) (fun (s : Jar × (List Int)) => (s.1, s.2)) (fun s => (.same (.same (.same (.same (.drop (.drop .nil))))))))))))
  (ts_freeze 3 (Γ' := fun (s : Jar × (List Int)) => [.bo j (OJar s.1), .im (RInt y.1), .im (RInt y.2.1), .im ((RLst RInt) s.2), .any, .any]) (get := fun (s : Jar × (List Int)) => s.2) (fun _ => rfl) (fun _ => rfl)
  (ts_retB 0 (fun (s : Jar × (List Int)) => s.1) (te_var 3 (R := (RLst RInt)) (f := fun (s : Jar × (List Int)) => s.2)))) PassesOwn.never))) (by exact fun _ h => h)
def m_l_put_in (p_l_letters_here : (List Int)) (p_l_many : Int) (p_l_kinds : Int) (t : Jar) (Kf : (List Int) → Jar → Prop) : Prop :=
  ((-(2 ^ 62) ≤ p_l_many ∧ p_l_many < 2 ^ 62) ∧ mFor (rangeL 0 p_l_many) (fun (l_turn40 : Int) (s45 : Jar × (List Int)) Kn41 => m_l_draw ((s45.2.length : Int) + (1 : Int)) s45.1 fun r47 t48 => m_l_letters (1 : Int) p_l_kinds t48 fun r49 t50 => ((pyCut s45.2 none (some r47)).length + r49.length ≤ 1000000 ∧ (∃ v51, pyAt r49 (0 : Int) = some v51 ∧ ([(-v51)].length ≤ 1000000 ∧ (((pyCut s45.2 none (some r47)) ++ r49).length + [(-v51)].length ≤ 1000000 ∧ ((((pyCut s45.2 none (some r47)) ++ r49) ++ [(-v51)]).length + (pyCut s45.2 (some r47) none).length ≤ 1000000 ∧ (fun (l_found44 : (List Int)) => Kn41 (t50, l_found44)) ((((pyCut s45.2 none (some r47)) ++ r49) ++ [(-v51)]) ++ (pyCut s45.2 (some r47) none)))))))) (t, p_l_letters_here) (fun (s46 : Jar × (List Int)) =>
  Kf s46.2 s46.1))
theorem ok_l_put_in (T : Tx K mg) : FnOk P w K mg base CX0 3 T.a_l_put_in T.d_l_put_in ["_law_jar_here", "_law_letters_here", "_law_many", "_law_kinds"] (spB OJar (acons (RLst RInt) (acons RInt (acons RInt anil))) (RLst RInt) (fun (y : (List Int) × Int × Int × Unit) t Kf => m_l_put_in y.1 y.2.1 y.2.2.1 t Kf)) :=
  fnB T.F_l_put_in sc_l_put_in (fun _ => rfl) fun cdv A outer s H E hr j y Kf B => ts_use (
  (ts_set (i := 4) (R := (RLst RInt)) (ps_set sc_l_put_in.nd rfl (Or.inl rfl) (te_lst (tn_tolist (bp_list T.z_list) (te_l (te_var 1 (R := (RLst RInt)) (f := fun (s : Jar) => y.1)))))) (fun l_found39 =>
  (ts_for (Γh := fun s : Jar × (List Int) => [.bo j (OJar s.1), .im ((RLst RInt) y.1), .im (RInt y.2.1), .im (RInt y.2.2.1), .im ((RLst RInt) s.2), .any, .any, .any]) (fun (s : Jar) => (s, l_found39)) (fun s => (.same (.same (.same (.same (.same (.drop (.drop (.drop .nil))))))))) (ti_range1 T.z_range (te_var 2 (R := RInt) (f := fun (s : Jar) => y.2.1))) (pg_name (i := 5) sc_l_put_in.nd rfl (Or.inl rfl)) (tg_name 5)
  (fun q l_turn40 Kn41 => (ts_par (i := 6) (j := 7) (Ra := RInt) (Rb := (RLst RInt)) (ps_par rfl sc_l_put_in.nd rfl rfl (by decide) rfl rfl (pa_cons (te_callB 0 (fun (s : Jar × (List Int)) => s.1) (fun (s : Jar × (List Int)) t => (t, s.2)) (ok_l_draw T) (hr.mono (by decide)) T.g_l_draw T.F_l_draw.kp T.b_l_draw (ta_cons (te_add (te_len (bp_len T.z_len) lens_list (te_l (te_var 4 (R := (RLst RInt)) (f := fun (s : Jar × (List Int)) => s.2)))) te_int) ta_nil)) (pa_cons (te_callB 0 (fun (s : Jar × (List Int)) => s.1) (fun (s : Jar × (List Int)) t => (t, s.2)) (ok_l_letters T) (hr.mono (by decide)) T.g_l_letters T.F_l_letters.kp T.b_l_letters (ta_cons te_int (ta_cons (te_var 3 (R := RInt) (f := fun (s : Jar × (List Int)) => y.2.2.1)) ta_nil))) pa_nil)) (by rfl)) (fun l_at42 l_two43 =>
  (ts_set (i := 4) (R := (RLst RInt)) (ps_set sc_l_put_in.nd rfl (Or.inl rfl) (te_lst (tn_cat (te_lst (tn_cat (te_lst (tn_cat (te_lst (tn_cut (te_l (te_var 4 (R := (RLst RInt)) (f := fun (s : Jar × (List Int)) => s.2))) to_none (to_some (te_var 6 (R := RInt) (f := fun (s : Jar × (List Int)) => l_at42))))) (te_var 7 (R := (RLst RInt)) (f := fun (s : Jar × (List Int)) => l_two43)))) (te_lst (tn_list (R := RInt) (tl_cons (te_neg (te_ixL (te_l (te_var 7 (R := (RLst RInt)) (f := fun (s : Jar × (List Int)) => l_two43))) te_int)) tl_nil))))) (te_lst (tn_cut (te_l (te_var 4 (R := (RLst RInt)) (f := fun (s : Jar × (List Int)) => s.2))) (to_some (te_var 6 (R := RInt) (f := fun (s : Jar × (List Int)) => l_at42))) to_none))))) (fun l_found44 =>
  (ts_end (Γj := fun s : Jar × (List Int) => [.bo j (OJar s.1), .im ((RLst RInt) y.1), .im (RInt y.2.1), .im (RInt y.2.2.1), .im ((RLst RInt) s.2), .any, .any, .any]) (fun (s : Jar × (List Int)) => (s.1, l_found44)) (fun s => (.same (.same (.same (.same (.same (.drop (.drop (.drop .nil)))))))))))))))
  (ts_retB 0 (fun (s : Jar × (List Int)) => s.1) (te_var 4 (R := (RLst RInt)) (f := fun (s : Jar × (List Int)) => s.2))) PassesOwn.never)))) (by exact fun _ h => h)
def m_l_contrary (p_l_letters_here : (List Int)) (Kf : (List Int) → Prop) : Prop :=
  (p_l_letters_here.reverse.length ≤ 1000000 ∧ mMap p_l_letters_here.reverse (fun (x57 : Int) K59 => K59 (-x57)) fun ys60 => Kf ys60)
theorem ok_l_contrary (T : Tx K mg) : FnOk P w K mg base CX0 1 T.a_l_contrary T.d_l_contrary ["_law_letters_here"] (spP (acons (RLst RInt) anil) (RLst RInt) (fun (y : (List Int) × Unit) Kf => m_l_contrary y.1 Kf)) :=
  fnP T.F_l_contrary sc_l_contrary (fun _ => rfl) fun cdv A outer s H E hr y Kf B => ts_use (
  (ts_ret (te_lst (tn_map sc_l_contrary.nd (ti_list (K := K) (te_known (K := K) (tn_rev (te_l (te_var 0 (R := (RLst RInt)) (f := fun (s : Unit) => y.1)))))) (blkOk_by (own := [("_law_letter", 1)]) (N := ["_law_letters_here", "_law_letter"]) (sc := defScope s_l_contrary) (by decide +kernel)) (fun _ _ _ _ _ => (pg_name (i := 1) sc_l_contrary.nd rfl (Or.inl rfl))) (tg_name 1) (fun s58 x57 B' s H C cl fp => (te_neg (te_var 1 (R := RInt) (f := fun (s : Unit) => x57)))))))) (by exact fun _ h => h)
def m_is_listed (p_value : (List Int)) (Kf : Bool → Prop) : Prop :=
  Kf true
theorem ok_is_listed (T : Tx K mg) : FnOk P w K mg base CX0 1 T.a_is_listed T.d_is_listed ["value"] (spP (acons (RLst RInt) anil) RBool (fun (y : (List Int) × Unit) Kf => m_is_listed y.1 Kf)) :=
  fnP T.F_is_listed sc_is_listed (fun _ => rfl) fun cdv A outer s H E hr y Kf B => ts_use (
  (ts_ret (te_isi2 (b := true) (bp_isi T.z_isinstance) ty_lst (te_var 0 (R := (RLst RInt)) (f := fun (s : Unit) => y.1)) (bg_list T.z_list) (bg_tuple T.z_tuple) (kit2 (r1 := true) (r2 := false) (by decide +kernel) (by decide +kernel))))) (by exact fun _ h => h)
def m_is_integer (p_value : Int) (Kf : Bool → Prop) : Prop :=
  mB (fun (K73 : Bool → Unit → Prop) => (if true = true then K73 (!false) () else K73 false ())) (fun b74 _ => Kf b74)
theorem ok_is_integer (T : Tx K mg) : FnOk P w K mg base CX0 1 T.a_is_integer T.d_is_integer ["value"] (spP (acons RInt anil) RBool (fun (y : Int × Unit) Kf => m_is_integer y.1 Kf)) :=
  fnP T.F_is_integer sc_is_integer (fun _ => rfl) fun cdv A outer s H E hr y Kf B => ts_use (
  (ts_ret (te_and (te_isi (b := true) (bp_isi T.z_isinstance) ty_int (te_var 0 (R := RInt) (f := fun (s : Unit) => y.1)) (bg_int T.z_int) (kit_ty (by decide +kernel))) (te_and1 (te_not (te_isi (b := false) (bp_isi T.z_isinstance) ty_int (te_var 0 (R := RInt) (f := fun (s : Unit) => y.1)) (bg_bool T.z_bool) (kit_ty (by decide +kernel)))))))) (by exact fun _ h => h)
def m_is_within (p_value : Int) (p_least : Int) (p_most : Int) (Kf : Bool → Prop) : Prop :=
  m_is_integer p_value fun r76 => (if (!r76) = true then Kf false else
  mB (fun (K77 : Bool → Unit → Prop) => mB (fun (K80 : Bool → Unit → Prop) => (if (false) = true then K80 true () else K80 (decide (p_least ≤ p_value)) ())) (fun b81 _ => (if b81 = true then mB (fun (K83 : Bool → Unit → Prop) => (if (false) = true then K83 true () else K83 (decide (p_value ≤ p_most)) ())) (fun b84 _ => K77 b84 ()) else K77 false ()))) (fun b78 _ => Kf b78))
theorem ok_is_within (T : Tx K mg) : FnOk P w K mg base CX0 2 T.a_is_within T.d_is_within ["value", "least", "most"] (spP (acons RInt (acons RInt (acons RInt anil))) RBool (fun (y : Int × Int × Int × Unit) Kf => m_is_within y.1 y.2.1 y.2.2.1 Kf)) :=
  fnP T.F_is_within sc_is_within (fun _ => rfl) fun cdv A outer s H E hr y Kf B => ts_use (
  (ts_ifr (tt_not (tt_val (te_call (ok_is_integer T) (hr.mono (by decide)) T.g_is_integer T.F_is_integer.kp T.b_is_integer (ta_cons (te_var 0 (R := RInt) (f := fun (s : Unit) => y.1)) ta_nil))))
  (ts_ret te_bl)
  (ts_ret (te_and (te_or (te_c (cr_isNo nn_int) (te_var 1 (R := RInt) (f := fun (s : Unit) => y.2.1)) te_non) (te_and1 (te_c cr_ge (te_var 0 (R := RInt) (f := fun (s : Unit) => y.1)) (te_var 1 (R := RInt) (f := fun (s : Unit) => y.2.1))))) (te_and1 (te_or (te_c (cr_isNo nn_int) (te_var 2 (R := RInt) (f := fun (s : Unit) => y.2.2.1)) te_non) (te_and1 (te_c cr_le (te_var 0 (R := RInt) (f := fun (s : Unit) => y.1)) (te_var 2 (R := RInt) (f := fun (s : Unit) => y.2.2.1)))))))))) (by exact fun _ h => h)
def m_is_letter (p_value : Int) (Kf : Bool → Prop) : Prop :=
  mB (fun (K86 : Bool → Unit → Prop) => m_is_within p_value (-(26 : Int)) (26 : Int) fun r89 => (if r89 = true then K86 (!decide (p_value = (0 : Int))) () else K86 false ())) (fun b87 _ => Kf b87)
theorem ok_is_letter (T : Tx K mg) : FnOk P w K mg base CX0 3 T.a_is_letter T.d_is_letter ["value"] (spP (acons RInt anil) RBool (fun (y : Int × Unit) Kf => m_is_letter y.1 Kf)) :=
  fnP T.F_is_letter sc_is_letter (fun _ => rfl) fun cdv A outer s H E hr y Kf B => ts_use (
  (ts_ret (te_and (te_call (ok_is_within T) (hr.mono (by decide)) T.g_is_within T.F_is_within.kp T.b_is_within (ta_cons (te_var 0 (R := RInt) (f := fun (s : Unit) => y.1)) (ta_cons (te_neg (te_globI T.c_LAST_KIND)) (ta_cons (te_globI T.c_LAST_KIND) ta_nil)))) (te_and1 (te_c (cr_ne flat_int) (te_var 0 (R := RInt) (f := fun (s : Unit) => y.1)) te_int))))) (by exact fun _ h => h)
def m_are_letters (p_value : (List Int)) (Kf : Bool → Prop) : Prop :=
  mB (fun (K91 : Bool → Unit → Prop) => m_is_listed p_value fun r94 => (if r94 = true then (p_value.length ≤ 1000000 ∧ mMap p_value (fun (x71 : Int) K90 => m_is_letter x71 fun r96 => K90 r96) fun ys95 => K91 (ys95.all id) ()) else K91 false ())) (fun b92 _ => Kf b92)
theorem ok_are_letters (T : Tx K mg) : FnOk P w K mg base CX0 4 T.a_are_letters T.d_are_letters ["value"] (spP (acons (RLst RInt) anil) RBool (fun (y : (List Int) × Unit) Kf => m_are_letters y.1 Kf)) :=
  fnP T.F_are_letters sc_are_letters (fun _ => rfl) fun cdv A outer s H E hr y Kf B => ts_use (
  (ts_ret (te_and (te_call (ok_is_listed T) (hr.mono (by decide)) T.g_is_listed T.F_is_listed.kp T.b_is_listed (ta_cons (te_var 0 (R := (RLst RInt)) (f := fun (s : Unit) => y.1)) ta_nil)) (te_and1 (te_all (bp_all T.z_all) (te_known (K := K) (tn_map sc_are_letters.nd (ti_list (K := K) (te_l (te_var 0 (R := (RLst RInt)) (f := fun (s : Unit) => y.1)))) (blkOk_by (own := [("each", 1)]) (N := ["value", "each"]) (sc := defScope s_are_letters) (by decide +kernel)) (fun _ _ _ _ _ => (pg_name (i := 1) sc_are_letters.nd rfl (Or.inl rfl))) (tg_name 1) (fun s72 x71 B' s H C cl fp => (te_call (ok_is_letter T) (hr.mono (by decide)) T.g_is_letter T.F_is_letter.kp T.b_is_letter (ta_cons (te_var 1 (R := RInt) (f := fun (s : Unit) => x71)) ta_nil)))))))))) (by exact fun _ h => h)
def m_need_few (p_many : Int) (Kf : Unit → Prop) : Prop :=
  (if (decide ((500 : Int) < p_many)) = true then False else
  Kf ())
theorem ok_need_few (T : Tx K mg) : FnOk P w K mg base CX0 1 T.a_need_few T.d_need_few ["many"] (spP (acons RInt anil) RNon (fun (y : Int × Unit) Kf => m_need_few y.1 Kf)) :=
  fnP T.F_need_few sc_need_few (fun _ => rfl) fun cdv A outer s H E hr y Kf B => ts_use (
  (ts_ifr (tt_c cr_gt (te_var 0 (R := RInt) (f := fun (s : Unit) => y.1)) (te_globI T.c_MOST_LETTERS))
  ts_never
  ts_fall)) (by exact fun _ h => h)
def m_are_short (p_letters : (List Int)) (Kf : Bool → Prop) : Prop :=
  ((List.zip p_letters (pyCut p_letters (some (1 : Int)) none)).length ≤ 1000000 ∧ mMap (List.zip p_letters (pyCut p_letters (some (1 : Int)) none)) (fun (x103 : (Int × Int)) K105 => K105 (!decide (x103.1 = (-x103.2)))) fun ys106 => Kf (ys106.all id))
theorem ok_are_short (T : Tx K mg) : FnOk P w K mg base CX0 1 T.a_are_short T.d_are_short ["letters"] (spP (acons (RTup K RInt) anil) RBool (fun (y : (List Int) × Unit) Kf => m_are_short y.1 Kf)) :=
  fnP T.F_are_short sc_are_short (fun _ => rfl) fun cdv A outer s H E hr y Kf B => ts_use (
  (ts_ret (te_all (bp_all T.z_all) (te_known (K := K) (tn_map sc_are_short.nd (ti_zipT (K := K) T.z_zip (te_var 0 (R := (RTup K RInt)) (f := fun (s : Unit) => y.1)) (te_cutT (te_var 0 (R := (RTup K RInt)) (f := fun (s : Unit) => y.1)) (to_some te_int) to_none)) (blkOk_by (own := [("one", 1), ("other", 2)]) (N := ["letters", "one", "other"]) (sc := defScope s_are_short) (by decide +kernel)) (fun _ _ _ _ _ => (pg_tup rfl (pgs_cons (pg_name (i := 1) sc_are_short.nd rfl (Or.inl rfl)) (pgs_cons (pg_name (i := 2) sc_are_short.nd rfl (Or.inl rfl)) pgs_nil)))) (tg_pair 1 2) (fun s104 x103 B' s H C cl fp => (te_c (cr_ne flat_int) (te_var 1 (R := RInt) (f := fun (s : Unit) => x103.1)) (te_neg (te_var 2 (R := RInt) (f := fun (s : Unit) => x103.2)))))))))) (by exact fun _ h => h)
def m_rounded_of (p_letters : (List Int)) (Kf : (List Int) → Prop) : Prop :=
  (fun (many108 : Int) => (fun (at109 : Int) => mWhile (fun (s114 : Int) K115 => mB (fun (K116 : Bool → Int → Prop) => (if (decide (s114 < ((many108 - (1 : Int)) - s114))) = true then (∃ v119, pyAt p_letters s114 = some v119 ∧ (∃ v120, pyAt p_letters ((many108 - (1 : Int)) - s114) = some v120 ∧ K116 (decide (v119 = (-v120))) s114)) else K116 false s114)) (fun b117 s118 => K115 b117 s118)) (fun (s112 : Int) Kn110 => (fun (at111 : Int) => Kn110 at111) (s112 + (1 : Int))) at109 (fun (s113 : Int) =>
  Kf (pyCut p_letters (some s113) (some (many108 - s113))))) (0 : Int)) (p_letters.length : Int)
theorem ok_rounded_of (T : Tx K mg) : FnOk P w K mg base CX0 1 T.a_rounded_of T.d_rounded_of ["letters"] (spP (acons (RTup K RInt) anil) (RTup K RInt) (fun (y : (List Int) × Unit) Kf => m_rounded_of y.1 Kf)) :=
  fnP T.F_rounded_of sc_rounded_of (fun _ => rfl) fun cdv A outer s H E hr y Kf B => ts_use (
  (ts_par (i := 1) (j := 2) (Ra := RInt) (Rb := RInt) (ps_par rfl sc_rounded_of.nd rfl rfl (by decide) rfl rfl (pa_cons (te_len (bp_len T.z_len) lens_tup (te_var 0 (R := (RTup K RInt)) (f := fun (s : Unit) => y.1))) (pa_cons te_int pa_nil)) (by rfl)) (fun many108 at109 =>
  (ts_while (Γh := fun s : Int => [.im ((RTup K RInt) y.1), .im (RInt many108), .im (RInt s)]) (fun (s : Unit) => at109) (fun s => (.same (.same (.same .nil)))) (tt_w (tw_and (tt_c cr_lt (te_var 2 (R := RInt) (f := fun (s : Int) => s)) (te_sub (te_sub (te_var 1 (R := RInt) (f := fun (s : Int) => many108)) te_int) (te_var 2 (R := RInt) (f := fun (s : Int) => s)))) (tw_and1 (tt_c (cr_eq flat_int) (te_ixT (te_var 0 (R := (RTup K RInt)) (f := fun (s : Int) => y.1)) (te_var 2 (R := RInt) (f := fun (s : Int) => s))) (te_neg (te_ixT (te_var 0 (R := (RTup K RInt)) (f := fun (s : Int) => y.1)) (te_sub (te_sub (te_var 1 (R := RInt) (f := fun (s : Int) => many108)) te_int) (te_var 2 (R := RInt) (f := fun (s : Int) => s)))))))))
  (fun Kn110 => (ts_set (i := 2) (R := RInt) (ps_set sc_rounded_of.nd rfl (Or.inl rfl) (te_add (te_var 2 (R := RInt) (f := fun (s : Int) => s)) te_int)) (fun at111 =>
  (ts_end (Γj := fun s : Int => [.im ((RTup K RInt) y.1), .im (RInt many108), .im (RInt s)]) (fun (s : Int) => at111) (fun s => (.same (.same (.same .nil))))))))
  (ts_ret (te_cutT (te_var 0 (R := (RTup K RInt)) (f := fun (s : Int) => y.1)) (to_some (te_var 2 (R := RInt) (f := fun (s : Int) => s))) (to_some (te_sub (te_var 1 (R := RInt) (f := fun (s : Int) => many108)) (te_var 2 (R := RInt) (f := fun (s : Int) => s)))))) PassesOwn.never)))) (by exact fun _ h => h)
structure D_Word where
  letters : (List Int)
  length : Int
  kinds : (List Int)
  is_short : Bool
  is_short_round : Bool
deriving DecidableEq
def fl_Word (K : PySem.W.Frag) (x : D_Word) : List (Str × Pd) := [("letters", (RTup K RInt) x.letters), ("length", RInt x.length), ("kinds", (RTup K RInt) x.kinds), ("is_short", RBool x.is_short), ("is_short_round", RBool x.is_short_round)]
def R_Word (T : Tx K mg) : D_Word → Pd := fun x => RIns T.C_Word (fl_Word K x)
theorem fd_Word_letters (T : Tx K mg) : FldR (R_Word T) T.C_Word "letters" (RTup K RInt) (fun x : D_Word => x.letters) := fldR (fl := fun x => fl_Word K x) (fun _ => rfl)
theorem fd_Word_length (T : Tx K mg) : FldR (R_Word T) T.C_Word "length" RInt (fun x : D_Word => x.length) := fldR (fl := fun x => fl_Word K x) (fun _ => rfl)
theorem fd_Word_kinds (T : Tx K mg) : FldR (R_Word T) T.C_Word "kinds" (RTup K RInt) (fun x : D_Word => x.kinds) := fldR (fl := fun x => fl_Word K x) (fun _ => rfl)
theorem fd_Word_is_short (T : Tx K mg) : FldR (R_Word T) T.C_Word "is_short" RBool (fun x : D_Word => x.is_short) := fldR (fl := fun x => fl_Word K x) (fun _ => rfl)
theorem fd_Word_is_short_round (T : Tx K mg) : FldR (R_Word T) T.C_Word "is_short_round" RBool (fun x : D_Word => x.is_short_round) := fldR (fl := fun x => fl_Word K x) (fun _ => rfl)
def m_Word___init__ (p_letters : (List Int)) (Kf : D_Word → Prop) : Prop :=
  m_are_letters p_letters fun r122 => (if (!r122) = true then False else
  m_need_few (p_letters.length : Int) fun r123 => (fun (length98 : Int) => (p_letters.length ≤ 4000 ∧ mMap p_letters (fun (x99 : Int) K101 => K101 (x99.natAbs : Int)) fun ys124 => ((sortU ys124).length < 64 ∧ (fun (kinds102 : (List Int)) => m_are_short p_letters fun r125 => mB (fun (K126 : Bool → Unit → Prop) => (if r125 = true then m_rounded_of p_letters fun r129 => K126 (decide (r129 = p_letters)) () else K126 false ())) (fun b127 _ => Kf (⟨p_letters, length98, kinds102, r125, b127⟩ : D_Word))) (sortU ys124)))) (p_letters.length : Int))
theorem ok_Word___init__ (T : Tx K mg) : FnOk P w K mg base CX0 5 T.a_Word___init__ T.d_Word___init__ ["self", "letters"] (spI T.C_Word (acons (RLst RInt) anil) (R_Word T) (fun (y : (List Int) × Unit) Kf => m_Word___init__ y.1 Kf)) :=
  fnI T.F_Word___init__ sc_Word___init__ (fun _ => rfl) fun cdv A outer s H E hr a y Kf B => ts_use (
  (ts_ifr (tt_not (tt_val (te_call (ok_are_letters T) (hr.mono (by decide)) T.g_are_letters T.F_are_letters.kp T.b_are_letters (ta_cons (te_var 1 (R := (RLst RInt)) (f := fun (s : Unit) => y.1)) ta_nil))))
  ts_never
  (ts_expr (te_call (ok_need_few T) (hr.mono (by decide)) T.g_need_few T.F_need_few.kp T.b_need_few (ta_cons (te_len (bp_len T.z_len) lens_list (te_l (te_var 1 (R := (RLst RInt)) (f := fun (s : Unit) => y.1)))) ta_nil))
  (ts_self (i := 0) (fl := fun (s : Unit) => []) (te_tuple_l (bp_tuple T.z_tuple) (te_l (te_var 1 (R := (RLst RInt)) (f := fun (s : Unit) => y.1)))) T.cls_Word T.na_Word_letters (fun letters97 =>
  (ts_self (i := 0) (fl := fun (s : Unit) => [("letters", (RTup K RInt) letters97)]) (te_len (bp_len T.z_len) lens_tup (te_self (a := a) (i := 0) (R := (RTup K RInt)) (fl := fun (s : Unit) => [("letters", (RTup K RInt) letters97)]) (f := fun (s : Unit) => letters97) T.cls_Word T.na_Word_letters (fun _ => rfl) (fun _ => rfl))) T.cls_Word T.na_Word_length (fun length98 =>
  (ts_self (i := 0) (fl := fun (s : Unit) => [("letters", (RTup K RInt) letters97), ("length", RInt length98)]) (te_tuple_l (bp_tuple T.z_tuple) (te_known (K := K) (tn_sortedSet (bp_sorted T.z_sorted) (te_setI sc_Word___init__.nd (ti_tup (K := K) (te_self (a := a) (i := 0) (R := (RTup K RInt)) (fl := fun (s : Unit) => [("letters", (RTup K RInt) letters97), ("length", RInt length98)]) (f := fun (s : Unit) => letters97) T.cls_Word T.na_Word_letters (fun _ => rfl) (fun _ => rfl))) (blkOk_by (own := [("letter", 2)]) (N := ["self", "letters", "letter"]) (sc := defScope s_Word___init__) (by decide +kernel)) (fun _ _ _ _ _ => (pg_name (i := 2) sc_Word___init__.nd rfl (Or.inl rfl))) (tg_name 2) (fun s100 x99 B' s H C cl fp => (te_abs (bp_abs T.z_abs) (te_var 2 (R := RInt) (f := fun (s : Unit) => x99)))))))) T.cls_Word T.na_Word_kinds (fun kinds102 =>
  (ts_self (i := 0) (fl := fun (s : Unit) => [("letters", (RTup K RInt) letters97), ("length", RInt length98), ("kinds", (RTup K RInt) kinds102)]) (te_call (ok_are_short T) (hr.mono (by decide)) T.g_are_short T.F_are_short.kp T.b_are_short (ta_cons (te_self (a := a) (i := 0) (R := (RTup K RInt)) (fl := fun (s : Unit) => [("letters", (RTup K RInt) letters97), ("length", RInt length98), ("kinds", (RTup K RInt) kinds102)]) (f := fun (s : Unit) => letters97) T.cls_Word T.na_Word_letters (fun _ => rfl) (fun _ => rfl)) ta_nil)) T.cls_Word T.na_Word_is_short (fun is_short107 =>
  (ts_self (i := 0) (fl := fun (s : Unit) => [("letters", (RTup K RInt) letters97), ("length", RInt length98), ("kinds", (RTup K RInt) kinds102), ("is_short", RBool is_short107)]) (te_and (te_self (a := a) (i := 0) (R := RBool) (fl := fun (s : Unit) => [("letters", (RTup K RInt) letters97), ("length", RInt length98), ("kinds", (RTup K RInt) kinds102), ("is_short", RBool is_short107)]) (f := fun (s : Unit) => is_short107) T.cls_Word T.na_Word_is_short (fun _ => rfl) (fun _ => rfl)) (te_and1 (te_c (cr_eqD (K := K) rfl hr.units (dat_tup dat_int)) (te_call (ok_rounded_of T) (hr.mono (by decide)) T.g_rounded_of T.F_rounded_of.kp T.b_rounded_of (ta_cons (te_self (a := a) (i := 0) (R := (RTup K RInt)) (fl := fun (s : Unit) => [("letters", (RTup K RInt) letters97), ("length", RInt length98), ("kinds", (RTup K RInt) kinds102), ("is_short", RBool is_short107)]) (f := fun (s : Unit) => letters97) T.cls_Word T.na_Word_letters (fun _ => rfl) (fun _ => rfl)) ta_nil)) (te_self (a := a) (i := 0) (R := (RTup K RInt)) (fl := fun (s : Unit) => [("letters", (RTup K RInt) letters97), ("length", RInt length98), ("kinds", (RTup K RInt) kinds102), ("is_short", RBool is_short107)]) (f := fun (s : Unit) => letters97) T.cls_Word T.na_Word_letters (fun _ => rfl) (fun _ => rfl))))) T.cls_Word T.na_Word_is_short_round (fun is_short_round121 =>
  (ts_selfEnd (i := 0) (fl := fun (s : Unit) => [("letters", (RTup K RInt) letters97), ("length", RInt length98), ("kinds", (RTup K RInt) kinds102), ("is_short", RBool is_short107), ("is_short_round", RBool is_short_round121)]) (flr := fun x => fl_Word K x) (fun (s : Unit) => (⟨letters97, length98, kinds102, is_short107, is_short_round121⟩ : D_Word)) (fun _ => rfl) (fun _ => rfl))) (hl := fun _ => ⟨rfl, by show 4 < 1000; decide⟩))) (hl := fun _ => ⟨rfl, by show 3 < 1000; decide⟩))) (hl := fun _ => ⟨rfl, by show 2 < 1000; decide⟩))) (hl := fun _ => ⟨rfl, by show 1 < 1000; decide⟩))) (hl := fun _ => ⟨rfl, by show 0 < 1000; decide⟩))))) (by exact fun _ h => h)
def m_l_taken_out (p_l_letters_here : (List Int)) (t : Jar) (Kf : (List Int) → Jar → Prop) : Prop :=
  ((-(2 ^ 62) ≤ (1 : Int) ∧ (1 : Int) < 2 ^ 62 ∧ -(2 ^ 62) ≤ (p_l_letters_here.length : Int) ∧ (p_l_letters_here.length : Int) < 2 ^ 62) ∧ ((rangeL (1 : Int) (p_l_letters_here.length : Int)).length ≤ 1000000 ∧ mMapIf (rangeL (1 : Int) (p_l_letters_here.length : Int)) (fun (x131 : Int) K134 => (∃ v149, pyAt p_l_letters_here x131 = some v149 ∧ (∃ v150, pyAt p_l_letters_here (x131 - (1 : Int)) = some v150 ∧ K134 (decide (v149 = (-v150)))))) (fun (x131 : Int) K133 => K133 x131) fun ys148 => mWhile (fun (s146 : Jar × (List Int) × (List Int)) K147 => (([] : List Int).length ≤ 1000000 ∧ K147 (!decide (s146.2.2 = ([] : List Int))) (s146.1, s146.2.1, s146.2.2))) (fun (s144 : Jar × (List Int) × (List Int)) Kn136 => m_l_pick s144.2.2 s144.1 fun r151 t152 => ((pyCut s144.2.1 none (some (r151 - (1 : Int)))).length + (pyCut s144.2.1 (some (r151 + (1 : Int))) none).length ≤ 1000000 ∧ (fun (l_left138 : (List Int)) => ((-(2 ^ 62) ≤ (1 : Int) ∧ (1 : Int) < 2 ^ 62 ∧ -(2 ^ 62) ≤ (l_left138.length : Int) ∧ (l_left138.length : Int) < 2 ^ 62) ∧ ((rangeL (1 : Int) (l_left138.length : Int)).length ≤ 1000000 ∧ mMapIf (rangeL (1 : Int) (l_left138.length : Int)) (fun (x139 : Int) K142 => (∃ v154, pyAt l_left138 x139 = some v154 ∧ (∃ v155, pyAt l_left138 (x139 - (1 : Int)) = some v155 ∧ K142 (decide (v154 = (-v155)))))) (fun (x139 : Int) K141 => K141 x139) fun ys153 => Kn136 (t152, l_left138, ys153)))) ((pyCut s144.2.1 none (some (r151 - (1 : Int)))) ++ (pyCut s144.2.1 (some (r151 + (1 : Int))) none)))) (t, p_l_letters_here, ys148) (fun (s145 : Jar × (List Int) × (List Int)) =>
  Kf s145.2.1 s145.1)))
theorem ok_l_taken_out (T : Tx K mg) : FnOk P w K mg base CX0 3 T.a_l_taken_out T.d_l_taken_out ["_law_jar_here", "_law_letters_here"] (spB OJar (acons (RLst RInt) anil) (RLst RInt) (fun (y : (List Int) × Unit) t Kf => m_l_taken_out y.1 t Kf)) :=
  fnB T.F_l_taken_out sc_l_taken_out (fun _ => rfl) fun cdv A outer s H E hr j y Kf B => ts_use (
  (ts_set (i := 2) (R := (RLst RInt)) (ps_set sc_l_taken_out.nd rfl (Or.inr rfl) (te_lst (tn_tolist (bp_list T.z_list) (te_l (te_var 1 (R := (RLst RInt)) (f := fun (s : Jar) => y.1)))))) (fun l_left130 =>
  (ts_set (i := 3) (R := (RLst RInt)) (ps_compIf (i := 3) sc_l_taken_out.nd (ti_range2 T.z_range te_int (te_len (bp_len T.z_len) lens_list (te_l (te_var 2 (R := (RLst RInt)) (f := fun (s : Jar) => l_left130))))) (blkOk_by (own := [("_law_at", 5)]) (N := ["_law_jar_here", "_law_letters_here", "_law_left", "_law_spots", "_law_spot", "_law_at"]) (sc := defScope s_l_taken_out) (by decide +kernel)) (fun _ _ _ _ _ => (pg_name (i := 5) sc_l_taken_out.nd rfl (Or.inl rfl))) (tg_name 5) (fun s132 x131 B' s H C cl fp => (tt_c (cr_eq flat_int) (te_ixL (te_l (te_var 2 (R := (RLst RInt)) (f := fun (s : Unit) => l_left130))) (te_var 5 (R := RInt) (f := fun (s : Unit) => x131))) (te_neg (te_ixL (te_l (te_var 2 (R := (RLst RInt)) (f := fun (s : Unit) => l_left130))) (te_sub (te_var 5 (R := RInt) (f := fun (s : Unit) => x131)) te_int))))) (fun s132 x131 B' s H C cl fp => (te_var 5 (R := RInt) (f := fun (s : Unit) => x131)))) (fun l_spots135 =>
  (ts_while (Γh := fun s : Jar × (List Int) × (List Int) => [.bo j (OJar s.1), .im ((RLst RInt) y.1), .im ((RLst RInt) s.2.1), .im ((RLst RInt) s.2.2), .any, .any]) (fun (s : Jar) => (s, l_left130, l_spots135)) (fun s => (.same (.same (.same (.same (.drop (.drop .nil))))))) (tt_c (cr_neD (K := K) rfl hr.units (dat_lst dat_int)) (te_var 3 (R := (RLst RInt)) (f := fun (s : Jar × (List Int) × (List Int)) => s.2.2)) (te_lst (tn_list (R := RInt) tl_nil)))
  (fun Kn136 => (ts_set (i := 4) (R := RInt) (ps_set sc_l_taken_out.nd rfl (Or.inl rfl) (te_callB 0 (fun (s : Jar × (List Int) × (List Int)) => s.1) (fun (s : Jar × (List Int) × (List Int)) t => (t, s.2.1, s.2.2)) (ok_l_pick T) (hr.mono (by decide)) T.g_l_pick T.F_l_pick.kp T.b_l_pick (ta_cons (te_var 3 (R := (RLst RInt)) (f := fun (s : Jar × (List Int) × (List Int)) => s.2.2)) ta_nil))) (fun l_spot137 =>
  (ts_set (i := 2) (R := (RLst RInt)) (ps_set sc_l_taken_out.nd rfl (Or.inr rfl) (te_lst (tn_cat (te_lst (tn_cut (te_l (te_var 2 (R := (RLst RInt)) (f := fun (s : Jar × (List Int) × (List Int)) => s.2.1))) to_none (to_some (te_sub (te_var 4 (R := RInt) (f := fun (s : Jar × (List Int) × (List Int)) => l_spot137)) te_int)))) (te_lst (tn_cut (te_l (te_var 2 (R := (RLst RInt)) (f := fun (s : Jar × (List Int) × (List Int)) => s.2.1))) (to_some (te_add (te_var 4 (R := RInt) (f := fun (s : Jar × (List Int) × (List Int)) => l_spot137)) te_int)) to_none))))) (fun l_left138 =>
  (ts_set (i := 3) (R := (RLst RInt)) (ps_compIf (i := 3) sc_l_taken_out.nd (ti_range2 T.z_range te_int (te_len (bp_len T.z_len) lens_list (te_l (te_var 2 (R := (RLst RInt)) (f := fun (s : Jar × (List Int) × (List Int)) => l_left138))))) (blkOk_by (own := [("_law_at", 5)]) (N := ["_law_jar_here", "_law_letters_here", "_law_left", "_law_spots", "_law_spot", "_law_at"]) (sc := defScope s_l_taken_out) (by decide +kernel)) (fun _ _ _ _ _ => (pg_name (i := 5) sc_l_taken_out.nd rfl (Or.inl rfl))) (tg_name 5) (fun s140 x139 B' s H C cl fp => (tt_c (cr_eq flat_int) (te_ixL (te_l (te_var 2 (R := (RLst RInt)) (f := fun (s : Unit) => l_left138))) (te_var 5 (R := RInt) (f := fun (s : Unit) => x139))) (te_neg (te_ixL (te_l (te_var 2 (R := (RLst RInt)) (f := fun (s : Unit) => l_left138))) (te_sub (te_var 5 (R := RInt) (f := fun (s : Unit) => x139)) te_int))))) (fun s140 x139 B' s H C cl fp => (te_var 5 (R := RInt) (f := fun (s : Unit) => x139)))) (fun l_spots143 =>
  (ts_end (Γj := fun s : Jar × (List Int) × (List Int) => [.bo j (OJar s.1), .im ((RLst RInt) y.1), .im ((RLst RInt) s.2.1), .im ((RLst RInt) s.2.2), .any, .any]) (fun (s : Jar × (List Int) × (List Int)) => (s.1, l_left138, l_spots143)) (fun s => (.same (.same (.same (.same (.drop (.drop .nil)))))))))))))))
  (ts_retB 0 (fun (s : Jar × (List Int) × (List Int)) => s.1) (te_var 2 (R := (RLst RInt)) (f := fun (s : Jar × (List Int) × (List Int)) => s.2.1))) PassesOwn.never)))))) (by exact fun _ h => h)
def m_shortened_of (p_letters : (List Int)) (Kf : (List Int) → Prop) : Prop :=
  (([] : List Int).length ≤ 1000000 ∧ mFor p_letters (fun (letter158 : Int) (s163 : (List Int)) Kn159 => mB (fun (K165 : Bool → (List Int) → Prop) => (if (!s163.isEmpty) = true then (∃ v168, pyAt s163 (-(1 : Int)) = some v168 ∧ K165 (decide (v168 = (-letter158))) s163) else K165 false s163)) (fun b166 s167 => mIf b166 (fun (Kn160 : (List Int) → Prop) => (∃ v169, s167[s167.length - 1]? = some v169 ∧ Kn160 s167.dropLast)) (fun (Kn161 : (List Int) → Prop) => (s167.length ≤ 1000000 ∧ Kn161 (s167 ++ [letter158]))) (fun (s162 : (List Int)) =>
  Kn159 s162))) ([] : List Int) (fun (s164 : (List Int)) =>
  Kf s164))
theorem ok_shortened_of (T : Tx K mg) : FnOk P w K mg base CX0 1 T.a_shortened_of T.d_shortened_of ["letters"] (spP (acons (RTup K RInt) anil) (RTup K RInt) (fun (y : (List Int) × Unit) Kf => m_shortened_of y.1 Kf)) :=
  fnP T.F_shortened_of sc_shortened_of (fun _ => rfl) fun cdv A outer s H E hr y Kf B => ts_use (
  (ts_setO (i := 1) (Γ' := fun (s : (List Int)) => [.im ((RTup K RInt) y.1), .ow (OList RInt s), .any]) (mk := fun (s : Unit) y => y) (ps_set sc_shortened_of.nd rfl (Or.inl rfl) (tn_list (R := RInt) tl_nil)) (fun _ _ => rfl)
  (ts_for (Γh := fun s : (List Int) => [.im ((RTup K RInt) y.1), .ow (OList RInt s), .any]) (fun (s : (List Int)) => s) (fun s => (.same (.same (.drop .nil)))) (ti_tup (K := K) (te_var 0 (R := (RTup K RInt)) (f := fun (s : (List Int)) => y.1))) (pg_name (i := 2) sc_shortened_of.nd rfl (Or.inl rfl)) (tg_name 2)
  (fun q letter158 Kn159 => (ts_if (Γj := fun s : (List Int) => [.im ((RTup K RInt) y.1), .ow (OList RInt s), .im (RInt letter158)]) (tt_w (tw_and (tt_ownNe0 1 (fun (s : (List Int)) => s) (R := RInt) (K := K) hr.units dat_int) (tw_and1 (tt_c (cr_eq flat_int) (te_ownIx 1 (fun (s : (List Int)) => s) (R := RInt) (te_neg te_int)) (te_neg (te_var 2 (R := RInt) (f := fun (s : (List Int)) => letter158)))))))
  (fun Kn160 => (ts_expr (te_pop 1 (fun (s : (List Int)) => s) (fun (s : (List Int)) t => t) (R := RInt))
  (ts_end (Γj := fun s : (List Int) => [.im ((RTup K RInt) y.1), .ow (OList RInt s), .im (RInt letter158)]) (fun (s : (List Int)) => s) (fun s => (.same (.same (.same .nil)))))))
  (fun Kn161 => (ts_expr (te_append 1 (fun (s : (List Int)) => s) (fun (s : (List Int)) t => t) (R := RInt) (te_var 2 (R := RInt) (f := fun (s : (List Int)) => letter158)))
  (ts_end (Γj := fun s : (List Int) => [.im ((RTup K RInt) y.1), .ow (OList RInt s), .im (RInt letter158)]) (fun (s : (List Int)) => s) (fun s => (.same (.same (.same .nil)))))))
  (ts_end (Γj := fun s : (List Int) => [.im ((RTup K RInt) y.1), .ow (OList RInt s), .any]) (fun (s : (List Int)) => s) (fun s => (.same (.same (.drop .nil)))))))
  (ts_ret (tn_ownTuple 1 (fun (s : (List Int)) => s) (R := RInt) (bp_tuple T.z_tuple))) PassesOwn.never))) (by exact fun _ h => h)
def m_is_listed_v1 (p_value : (List Int)) (Kf : Bool → Prop) : Prop :=
  Kf true
theorem ok_is_listed_v1 (T : Tx K mg) : FnOk P w K mg base CX0 1 T.a_is_listed T.d_is_listed ["value"] (spP (acons (RTup K RInt) anil) RBool (fun (y : (List Int) × Unit) Kf => m_is_listed_v1 y.1 Kf)) :=
  fnP T.F_is_listed sc_is_listed (fun _ => rfl) fun cdv A outer s H E hr y Kf B => ts_use (
  (ts_ret (te_isi2 (b := true) (bp_isi T.z_isinstance) ty_tup (te_var 0 (R := (RTup K RInt)) (f := fun (s : Unit) => y.1)) (bg_list T.z_list) (bg_tuple T.z_tuple) (kit2 (r1 := false) (r2 := true) (by decide +kernel) (by decide +kernel))))) (by exact fun _ h => h)
def m_are_letters_v1 (p_value : (List Int)) (Kf : Bool → Prop) : Prop :=
  mB (fun (K173 : Bool → Unit → Prop) => m_is_listed_v1 p_value fun r176 => (if r176 = true then (p_value.length ≤ 1000000 ∧ mMap p_value (fun (x170 : Int) K172 => m_is_letter x170 fun r178 => K172 r178) fun ys177 => K173 (ys177.all id) ()) else K173 false ())) (fun b174 _ => Kf b174)
theorem ok_are_letters_v1 (T : Tx K mg) : FnOk P w K mg base CX0 4 T.a_are_letters T.d_are_letters ["value"] (spP (acons (RTup K RInt) anil) RBool (fun (y : (List Int) × Unit) Kf => m_are_letters_v1 y.1 Kf)) :=
  fnP T.F_are_letters sc_are_letters (fun _ => rfl) fun cdv A outer s H E hr y Kf B => ts_use (
  (ts_ret (te_and (te_call (ok_is_listed_v1 T) (hr.mono (by decide)) T.g_is_listed T.F_is_listed.kp T.b_is_listed (ta_cons (te_var 0 (R := (RTup K RInt)) (f := fun (s : Unit) => y.1)) ta_nil)) (te_and1 (te_all (bp_all T.z_all) (te_known (K := K) (tn_map sc_are_letters.nd (ti_tup (K := K) (te_var 0 (R := (RTup K RInt)) (f := fun (s : Unit) => y.1))) (blkOk_by (own := [("each", 1)]) (N := ["value", "each"]) (sc := defScope s_are_letters) (by decide +kernel)) (fun _ _ _ _ _ => (pg_name (i := 1) sc_are_letters.nd rfl (Or.inl rfl))) (tg_name 1) (fun s171 x170 B' s H C cl fp => (te_call (ok_is_letter T) (hr.mono (by decide)) T.g_is_letter T.F_is_letter.kp T.b_is_letter (ta_cons (te_var 1 (R := RInt) (f := fun (s : Unit) => x170)) ta_nil)))))))))) (by exact fun _ h => h)
def m_Word___init___v1 (p_letters : (List Int)) (Kf : D_Word → Prop) : Prop :=
  m_are_letters_v1 p_letters fun r187 => (if (!r187) = true then False else
  m_need_few (p_letters.length : Int) fun r188 => (fun (length180 : Int) => (p_letters.length ≤ 4000 ∧ mMap p_letters (fun (x181 : Int) K183 => K183 (x181.natAbs : Int)) fun ys189 => ((sortU ys189).length < 64 ∧ (fun (kinds184 : (List Int)) => m_are_short p_letters fun r190 => mB (fun (K191 : Bool → Unit → Prop) => (if r190 = true then m_rounded_of p_letters fun r194 => K191 (decide (r194 = p_letters)) () else K191 false ())) (fun b192 _ => Kf (⟨p_letters, length180, kinds184, r190, b192⟩ : D_Word))) (sortU ys189)))) (p_letters.length : Int))
theorem ok_Word___init___v1 (T : Tx K mg) : FnOk P w K mg base CX0 5 T.a_Word___init__ T.d_Word___init__ ["self", "letters"] (spI T.C_Word (acons (RTup K RInt) anil) (R_Word T) (fun (y : (List Int) × Unit) Kf => m_Word___init___v1 y.1 Kf)) :=
  fnI T.F_Word___init__ sc_Word___init__ (fun _ => rfl) fun cdv A outer s H E hr a y Kf B => ts_use (
  (ts_ifr (tt_not (tt_val (te_call (ok_are_letters_v1 T) (hr.mono (by decide)) T.g_are_letters T.F_are_letters.kp T.b_are_letters (ta_cons (te_var 1 (R := (RTup K RInt)) (f := fun (s : Unit) => y.1)) ta_nil))))
  ts_never
  (ts_expr (te_call (ok_need_few T) (hr.mono (by decide)) T.g_need_few T.F_need_few.kp T.b_need_few (ta_cons (te_len (bp_len T.z_len) lens_tup (te_var 1 (R := (RTup K RInt)) (f := fun (s : Unit) => y.1))) ta_nil))
  (ts_self (i := 0) (fl := fun (s : Unit) => []) (te_tuple_t (bp_tuple T.z_tuple) (te_var 1 (R := (RTup K RInt)) (f := fun (s : Unit) => y.1))) T.cls_Word T.na_Word_letters (fun letters179 =>
  (ts_self (i := 0) (fl := fun (s : Unit) => [("letters", (RTup K RInt) letters179)]) (te_len (bp_len T.z_len) lens_tup (te_self (a := a) (i := 0) (R := (RTup K RInt)) (fl := fun (s : Unit) => [("letters", (RTup K RInt) letters179)]) (f := fun (s : Unit) => letters179) T.cls_Word T.na_Word_letters (fun _ => rfl) (fun _ => rfl))) T.cls_Word T.na_Word_length (fun length180 =>
  (ts_self (i := 0) (fl := fun (s : Unit) => [("letters", (RTup K RInt) letters179), ("length", RInt length180)]) (te_tuple_l (bp_tuple T.z_tuple) (te_known (K := K) (tn_sortedSet (bp_sorted T.z_sorted) (te_setI sc_Word___init__.nd (ti_tup (K := K) (te_self (a := a) (i := 0) (R := (RTup K RInt)) (fl := fun (s : Unit) => [("letters", (RTup K RInt) letters179), ("length", RInt length180)]) (f := fun (s : Unit) => letters179) T.cls_Word T.na_Word_letters (fun _ => rfl) (fun _ => rfl))) (blkOk_by (own := [("letter", 2)]) (N := ["self", "letters", "letter"]) (sc := defScope s_Word___init__) (by decide +kernel)) (fun _ _ _ _ _ => (pg_name (i := 2) sc_Word___init__.nd rfl (Or.inl rfl))) (tg_name 2) (fun s182 x181 B' s H C cl fp => (te_abs (bp_abs T.z_abs) (te_var 2 (R := RInt) (f := fun (s : Unit) => x181)))))))) T.cls_Word T.na_Word_kinds (fun kinds184 =>
  (ts_self (i := 0) (fl := fun (s : Unit) => [("letters", (RTup K RInt) letters179), ("length", RInt length180), ("kinds", (RTup K RInt) kinds184)]) (te_call (ok_are_short T) (hr.mono (by decide)) T.g_are_short T.F_are_short.kp T.b_are_short (ta_cons (te_self (a := a) (i := 0) (R := (RTup K RInt)) (fl := fun (s : Unit) => [("letters", (RTup K RInt) letters179), ("length", RInt length180), ("kinds", (RTup K RInt) kinds184)]) (f := fun (s : Unit) => letters179) T.cls_Word T.na_Word_letters (fun _ => rfl) (fun _ => rfl)) ta_nil)) T.cls_Word T.na_Word_is_short (fun is_short185 =>
  (ts_self (i := 0) (fl := fun (s : Unit) => [("letters", (RTup K RInt) letters179), ("length", RInt length180), ("kinds", (RTup K RInt) kinds184), ("is_short", RBool is_short185)]) (te_and (te_self (a := a) (i := 0) (R := RBool) (fl := fun (s : Unit) => [("letters", (RTup K RInt) letters179), ("length", RInt length180), ("kinds", (RTup K RInt) kinds184), ("is_short", RBool is_short185)]) (f := fun (s : Unit) => is_short185) T.cls_Word T.na_Word_is_short (fun _ => rfl) (fun _ => rfl)) (te_and1 (te_c (cr_eqD (K := K) rfl hr.units (dat_tup dat_int)) (te_call (ok_rounded_of T) (hr.mono (by decide)) T.g_rounded_of T.F_rounded_of.kp T.b_rounded_of (ta_cons (te_self (a := a) (i := 0) (R := (RTup K RInt)) (fl := fun (s : Unit) => [("letters", (RTup K RInt) letters179), ("length", RInt length180), ("kinds", (RTup K RInt) kinds184), ("is_short", RBool is_short185)]) (f := fun (s : Unit) => letters179) T.cls_Word T.na_Word_letters (fun _ => rfl) (fun _ => rfl)) ta_nil)) (te_self (a := a) (i := 0) (R := (RTup K RInt)) (fl := fun (s : Unit) => [("letters", (RTup K RInt) letters179), ("length", RInt length180), ("kinds", (RTup K RInt) kinds184), ("is_short", RBool is_short185)]) (f := fun (s : Unit) => letters179) T.cls_Word T.na_Word_letters (fun _ => rfl) (fun _ => rfl))))) T.cls_Word T.na_Word_is_short_round (fun is_short_round186 =>
  (ts_selfEnd (i := 0) (fl := fun (s : Unit) => [("letters", (RTup K RInt) letters179), ("length", RInt length180), ("kinds", (RTup K RInt) kinds184), ("is_short", RBool is_short185), ("is_short_round", RBool is_short_round186)]) (flr := fun x => fl_Word K x) (fun (s : Unit) => (⟨letters179, length180, kinds184, is_short185, is_short_round186⟩ : D_Word)) (fun _ => rfl) (fun _ => rfl))) (hl := fun _ => ⟨rfl, by show 4 < 1000; decide⟩))) (hl := fun _ => ⟨rfl, by show 3 < 1000; decide⟩))) (hl := fun _ => ⟨rfl, by show 2 < 1000; decide⟩))) (hl := fun _ => ⟨rfl, by show 1 < 1000; decide⟩))) (hl := fun _ => ⟨rfl, by show 0 < 1000; decide⟩))))) (by exact fun _ h => h)
def m_Word_shortened (p_self : D_Word) (Kf : D_Word → Prop) : Prop :=
  m_shortened_of p_self.letters fun r196 => m_Word___init___v1 r196 fun w195 => Kf w195
theorem ok_Word_shortened (T : Tx K mg) : FnOk P w K mg base CX0 7 T.a_Word_shortened T.d_Word_shortened ["self"] (spP (acons (R_Word T) anil) (R_Word T) (fun (y : D_Word × Unit) Kf => m_Word_shortened y.1 Kf)) :=
  fnP T.F_Word_shortened sc_Word_shortened (fun _ => rfl) fun cdv A outer s H E hr y Kf B => ts_use (
  (ts_ret (te_make T.mk_Word (ok_Word___init___v1 T) (hr.mono (by decide)) T.g_Word T.b_Word___init__ (ta_cons (te_call (ok_shortened_of T) (hr.mono (by decide)) T.g_shortened_of T.F_shortened_of.kp T.b_shortened_of (ta_cons (te_fld (fd_Word_letters T) T.cls_Word T.na_Word_letters (te_var 0 (R := (R_Word T)) (f := fun (s : Unit) => y.1))) ta_nil)) ta_nil)))) (by exact fun _ h => h)
def m_Word_shortened_round (p_self : D_Word) (Kf : D_Word → Prop) : Prop :=
  m_shortened_of p_self.letters fun r199 => m_rounded_of r199 fun r198 => m_Word___init___v1 r198 fun w197 => Kf w197
theorem ok_Word_shortened_round (T : Tx K mg) : FnOk P w K mg base CX0 7 T.a_Word_shortened_round T.d_Word_shortened_round ["self"] (spP (acons (R_Word T) anil) (R_Word T) (fun (y : D_Word × Unit) Kf => m_Word_shortened_round y.1 Kf)) :=
  fnP T.F_Word_shortened_round sc_Word_shortened_round (fun _ => rfl) fun cdv A outer s H E hr y Kf B => ts_use (
  (ts_ret (te_make T.mk_Word (ok_Word___init___v1 T) (hr.mono (by decide)) T.g_Word T.b_Word___init__ (ta_cons (te_call (ok_rounded_of T) (hr.mono (by decide)) T.g_rounded_of T.F_rounded_of.kp T.b_rounded_of (ta_cons (te_call (ok_shortened_of T) (hr.mono (by decide)) T.g_shortened_of T.F_shortened_of.kp T.b_shortened_of (ta_cons (te_fld (fd_Word_letters T) T.cls_Word T.na_Word_letters (te_var 0 (R := (R_Word T)) (f := fun (s : Unit) => y.1))) ta_nil)) ta_nil)) ta_nil)))) (by exact fun _ h => h)
def m_l_ends_off (p_l_letters_here : (List Int)) (Kf : (List Int) → Prop) : Prop :=
  mWhile (fun (s207 : (List Int)) K208 => mB (fun (K209 : Bool → (List Int) → Prop) => (if (decide ((1 : Int) < (s207.length : Int))) = true then (∃ v212, pyAt s207 (0 : Int) = some v212 ∧ (∃ v213, pyAt s207 (-(1 : Int)) = some v213 ∧ K209 (decide (v212 = (-v213))) s207)) else K209 false s207)) (fun b210 s211 => K208 b210 s211)) (fun (s205 : (List Int)) Kn203 => (fun (l_left204 : (List Int)) => Kn203 l_left204) (pyCut s205 (some (1 : Int)) (some (-(1 : Int))))) p_l_letters_here (fun (s206 : (List Int)) =>
  Kf s206)
theorem ok_l_ends_off (T : Tx K mg) : FnOk P w K mg base CX0 1 T.a_l_ends_off T.d_l_ends_off ["_law_letters_here"] (spP (acons (RLst RInt) anil) (RLst RInt) (fun (y : (List Int) × Unit) Kf => m_l_ends_off y.1 Kf)) :=
  fnP T.F_l_ends_off sc_l_ends_off (fun _ => rfl) fun cdv A outer s H E hr y Kf B => ts_use (
  (ts_set (i := 1) (R := (RLst RInt)) (ps_set sc_l_ends_off.nd rfl (Or.inl rfl) (te_lst (tn_tolist (bp_list T.z_list) (te_l (te_var 0 (R := (RLst RInt)) (f := fun (s : Unit) => y.1)))))) (fun l_left202 =>
  (ts_while (Γh := fun s : (List Int) => [.im ((RLst RInt) y.1), .im ((RLst RInt) s)]) (fun (s : Unit) => l_left202) (fun s => (.same (.same .nil))) (tt_w (tw_and (tt_c cr_gt (te_len (bp_len T.z_len) lens_list (te_l (te_var 1 (R := (RLst RInt)) (f := fun (s : (List Int)) => s)))) te_int) (tw_and1 (tt_c (cr_eq flat_int) (te_ixL (te_l (te_var 1 (R := (RLst RInt)) (f := fun (s : (List Int)) => s))) te_int) (te_neg (te_ixL (te_l (te_var 1 (R := (RLst RInt)) (f := fun (s : (List Int)) => s))) (te_neg te_int)))))))
  (fun Kn203 => (ts_set (i := 1) (R := (RLst RInt)) (ps_set sc_l_ends_off.nd rfl (Or.inl rfl) (te_lst (tn_cut (te_l (te_var 1 (R := (RLst RInt)) (f := fun (s : (List Int)) => s))) (to_some te_int) (to_some (te_neg te_int))))) (fun l_left204 =>
  (ts_end (Γj := fun s : (List Int) => [.im ((RLst RInt) y.1), .im ((RLst RInt) s)]) (fun (s : (List Int)) => l_left204) (fun s => (.same (.same .nil)))))))
  (ts_ret (te_var 1 (R := (RLst RInt)) (f := fun (s : (List Int)) => s))) PassesOwn.never)))) (by exact fun _ h => h)
def m_Word___eq__ (p_self : D_Word) (p_other : D_Word) (Kf : Bool → Prop) : Prop :=
  mB (fun (K214 : Bool → Unit → Prop) => (if true = true then K214 (decide (p_self.letters = p_other.letters)) () else K214 false ())) (fun b215 _ => Kf b215)
theorem ok_Word___eq__ (T : Tx K mg) : FnOk P w K mg base CX0 1 T.a_Word___eq__ T.d_Word___eq__ ["self", "other"] (spP (acons (R_Word T) (acons (R_Word T) anil)) RBool (fun (y : D_Word × D_Word × Unit) Kf => m_Word___eq__ y.1 y.2.1 Kf)) :=
  fnP T.F_Word___eq__ sc_Word___eq__ (fun _ => rfl) fun cdv A outer s H E hr y Kf B => ts_use (
  (ts_ret (te_and (te_isi (b := true) (bp_isi T.z_isinstance) (ty_ins T.isc_Word) (te_var 1 (R := (R_Word T)) (f := fun (s : Unit) => y.2.1)) (pcl_own T.g_Word) T.isc_Word.me) (te_and1 (te_c (cr_eqD (K := K) rfl hr.units (dat_tup dat_int)) (te_fld (fd_Word_letters T) T.cls_Word T.na_Word_letters (te_var 0 (R := (R_Word T)) (f := fun (s : Unit) => y.1))) (te_fld (fd_Word_letters T) T.cls_Word T.na_Word_letters (te_var 1 (R := (R_Word T)) (f := fun (s : Unit) => y.2.1)))))))) (by exact fun _ h => h)
def eqW (x y : D_Word) : Bool := decide (x.letters = y.letters)
theorem eqW_ok (x y : D_Word) (Kf : Bool → Prop) (h : Kf (eqW x y)) : m_Word___eq__ x y Kf := h

def m_contrary_of (p_letters : (List Int)) (Kf : (List Int) → Prop) : Prop :=
  (p_letters.reverse.length ≤ 1000000 ∧ mMap p_letters.reverse (fun (x217 : Int) K219 => K219 (-x217)) fun ys220 => Kf ys220)
theorem ok_contrary_of (T : Tx K mg) : FnOk P w K mg base CX0 1 T.a_contrary_of T.d_contrary_of ["letters"] (spP (acons (RTup K RInt) anil) (RTup K RInt) (fun (y : (List Int) × Unit) Kf => m_contrary_of y.1 Kf)) :=
  fnP T.F_contrary_of sc_contrary_of (fun _ => rfl) fun cdv A outer s H E hr y Kf B => ts_use (
  (ts_ret (te_tuple_l (bp_tuple T.z_tuple) (te_known (K := K) (tn_map sc_contrary_of.nd (ti_tup (K := K) (te_revT (te_var 0 (R := (RTup K RInt)) (f := fun (s : Unit) => y.1)))) (blkOk_by (own := [("letter", 1)]) (N := ["letters", "letter"]) (sc := defScope s_contrary_of) (by decide +kernel)) (fun _ _ _ _ _ => (pg_name (i := 1) sc_contrary_of.nd rfl (Or.inl rfl))) (tg_name 1) (fun s218 x217 B' s H C cl fp => (te_neg (te_var 1 (R := RInt) (f := fun (s : Unit) => x217))))))))) (by exact fun _ h => h)
def m_Word_contrary (p_self : D_Word) (Kf : D_Word → Prop) : Prop :=
  m_contrary_of p_self.letters fun r222 => m_Word___init___v1 r222 fun w221 => Kf w221
theorem ok_Word_contrary (T : Tx K mg) : FnOk P w K mg base CX0 7 T.a_Word_contrary T.d_Word_contrary ["self"] (spP (acons (R_Word T) anil) (R_Word T) (fun (y : D_Word × Unit) Kf => m_Word_contrary y.1 Kf)) :=
  fnP T.F_Word_contrary sc_Word_contrary (fun _ => rfl) fun cdv A outer s H E hr y Kf B => ts_use (
  (ts_ret (te_make T.mk_Word (ok_Word___init___v1 T) (hr.mono (by decide)) T.g_Word T.b_Word___init__ (ta_cons (te_call (ok_contrary_of T) (hr.mono (by decide)) T.g_contrary_of T.F_contrary_of.kp T.b_contrary_of (ta_cons (te_fld (fd_Word_letters T) T.cls_Word T.na_Word_letters (te_var 0 (R := (R_Word T)) (f := fun (s : Unit) => y.1))) ta_nil)) ta_nil)))) (by exact fun _ h => h)
def m_need_word (p_value : D_Word) (p_part : Str) (Kf : Unit → Prop) : Prop :=
  (if (!true) = true then False else
  Kf ())
theorem ok_need_word (T : Tx K mg) : FnOk P w K mg base CX0 1 T.a_need_word T.d_need_word ["value", "part"] (spP (acons (R_Word T) (acons RStr anil)) RNon (fun (y : D_Word × Str × Unit) Kf => m_need_word y.1 y.2.1 Kf)) :=
  fnP T.F_need_word sc_need_word (fun _ => rfl) fun cdv A outer s H E hr y Kf B => ts_use (
  (ts_ifr (tt_not (tt_val (te_isi (b := true) (bp_isi T.z_isinstance) (ty_ins T.isc_Word) (te_var 0 (R := (R_Word T)) (f := fun (s : Unit) => y.1)) (pcl_own T.g_Word) T.isc_Word.me)))
  ts_never
  ts_fall)) (by exact fun _ h => h)
def m_Word_then (p_self : D_Word) (p_other : D_Word) (Kf : D_Word → Prop) : Prop :=
  m_need_word p_other ("other" : Str) fun r223 => (p_self.letters.length + p_other.letters.length ≤ 1000000 ∧ m_Word___init___v1 (p_self.letters ++ p_other.letters) fun w224 => Kf w224)
theorem ok_Word_then (T : Tx K mg) : FnOk P w K mg base CX0 7 T.a_Word_then T.d_Word_then ["self", "other"] (spP (acons (R_Word T) (acons (R_Word T) anil)) (R_Word T) (fun (y : D_Word × D_Word × Unit) Kf => m_Word_then y.1 y.2.1 Kf)) :=
  fnP T.F_Word_then sc_Word_then (fun _ => rfl) fun cdv A outer s H E hr y Kf B => ts_use (
  (ts_expr (te_call (ok_need_word T) (hr.mono (by decide)) T.g_need_word T.F_need_word.kp T.b_need_word (ta_cons (te_var 1 (R := (R_Word T)) (f := fun (s : Unit) => y.2.1)) (ta_cons te_str ta_nil)))
  (ts_ret (te_make T.mk_Word (ok_Word___init___v1 T) (hr.mono (by decide)) T.g_Word T.b_Word___init__ (ta_cons (te_catT (te_fld (fd_Word_letters T) T.cls_Word T.na_Word_letters (te_var 0 (R := (R_Word T)) (f := fun (s : Unit) => y.1))) (te_fld (fd_Word_letters T) T.cls_Word T.na_Word_letters (te_var 1 (R := (R_Word T)) (f := fun (s : Unit) => y.2.1)))) ta_nil))))) (by exact fun _ h => h)
def m_l_short_right (p_l_letters_here : (List Int)) (t : Jar) (Kf : Bool → Jar → Prop) : Prop :=
  m_Word___init__ p_l_letters_here fun w225 => m_l_taken_out p_l_letters_here t fun r226 t227 => m_Word_shortened w225 fun r228 => m_Word_shortened_round w225 fun r229 => mB (fun (K230 : Bool → Jar → Prop) => (if (!true) = true then K230 true t227 else (if (!true) = true then K230 true t227 else (if (!decide (r228.letters = r226)) = true then K230 true t227 else m_l_taken_out p_l_letters_here t227 fun r233 t234 => K230 (!decide (r233 = r226)) t234)))) (fun b231 s232 => (if b231 = true then Kf false s232 else
  mB (fun (K235 : Bool → Jar → Prop) => m_l_ends_off r226 fun r238 => (if (!decide (r229.letters = r238)) = true then K235 true s232 else K235 (!decide (w225.letters = p_l_letters_here)) s232)) (fun b236 s237 => (if b236 = true then Kf false s237 else
  mB (fun (K239 : Bool → Jar → Prop) => (if (!decide (r228.is_short = true)) = true then K239 true s237 else (if (!decide (r229.is_short_round = true)) = true then K239 true s237 else m_Word_shortened r228 fun r242 => (if (!eqW r242 r228) = true then K239 true s237 else m_Word_shortened_round r229 fun r243 => K239 (!eqW r243 r229) s237)))) (fun b240 s241 => (if b240 = true then Kf false s241 else
  mB (fun (K244 : Bool → Jar → Prop) => ([w225.is_short, w225.is_short_round].length ≤ 1000000 ∧ ([(eqW r228 w225), (eqW r229 w225)].length ≤ 1000000 ∧ (if (!decide ([w225.is_short, w225.is_short_round] = [(eqW r228 w225), (eqW r229 w225)])) = true then K244 true s241 else m_Word_contrary w225 fun r248 => m_Word_shortened r248 fun r247 => m_Word_contrary r228 fun r249 => K244 (!eqW r247 r249) s241)))) (fun b245 s246 => (if b245 = true then Kf false s246 else
  mB (fun (K250 : Bool → Jar → Prop) => m_Word_contrary w225 fun r255 => m_Word_then w225 r255 fun r254 => m_Word_shortened r254 fun r253 => (([] : List Int).length ≤ 1000000 ∧ m_Word___init__ ([] : List Int) fun w256 => (if (eqW r253 w256) = true then m_Word_contrary w225 fun r259 => m_Word_then r259 w225 fun r258 => m_Word_shortened_round r258 fun r257 => K250 (eqW w256 r257) s246 else K250 false s246))) (fun b251 s252 => Kf b251 s252)))))))))
theorem ok_l_short_right (T : Tx K mg) : FnOk P w K mg base CX0 8 T.a_l_short_right T.d_l_short_right ["_law_jar_here", "_law_letters_here"] (spB OJar (acons (RLst RInt) anil) RBool (fun (y : (List Int) × Unit) t Kf => m_l_short_right y.1 t Kf)) :=
  fnB T.F_l_short_right sc_l_short_right (fun _ => rfl) fun cdv A outer s H E hr j y Kf B => ts_use (
  (ts_par (i := 2) (j := 3) (Ra := (R_Word T)) (Rb := (RLst RInt)) (ps_par rfl sc_l_short_right.nd rfl rfl (by decide) rfl rfl (pa_cons (te_make T.mk_Word (ok_Word___init__ T) (hr.mono (by decide)) T.g_Word T.b_Word___init__ (ta_cons (te_var 1 (R := (RLst RInt)) (f := fun (s : Jar) => y.1)) ta_nil)) (pa_cons (te_callB 0 (fun (s : Jar) => s) (fun (s : Jar) t => t) (ok_l_taken_out T) (hr.mono (by decide)) T.g_l_taken_out T.F_l_taken_out.kp T.b_l_taken_out (ta_cons (te_var 1 (R := (RLst RInt)) (f := fun (s : Jar) => y.1)) ta_nil)) pa_nil)) (by rfl)) (fun l_word156 l_due157 =>
  (ts_par (i := 4) (j := 5) (Ra := (R_Word T)) (Rb := (R_Word T)) (ps_par rfl sc_l_short_right.nd rfl rfl (by decide) rfl rfl (pa_cons (te_meth0 (mn := "shortened") (insR (fun _ => rfl)) (te_var 2 (R := (R_Word T)) (f := fun (s : Jar) => l_word156)) T.cls_Word T.me_Word_shortened (ok_Word_shortened T) (hr.mono (by decide)) T.b_Word_shortened) (pa_cons (te_meth0 (mn := "shortened_round") (insR (fun _ => rfl)) (te_var 2 (R := (R_Word T)) (f := fun (s : Jar) => l_word156)) T.cls_Word T.me_Word_shortened_round (ok_Word_shortened_round T) (hr.mono (by decide)) T.b_Word_shortened_round) pa_nil)) (by rfl)) (fun l_short200 l_bare201 =>
  (ts_ifr (tt_w (tw_or (tt_not (tt_val (te_isi (b := true) (bp_isi T.z_isinstance) (ty_ins T.isc_Word) (te_var 4 (R := (R_Word T)) (f := fun (s : Jar) => l_short200)) (pcl_own T.g_Word) T.isc_Word.me))) (tw_or (tt_not (tt_val (te_isi (b := true) (bp_isi T.z_isinstance) (ty_ins T.isc_Word) (te_var 5 (R := (R_Word T)) (f := fun (s : Jar) => l_bare201)) (pcl_own T.g_Word) T.isc_Word.me))) (tw_or (tt_c (cr_neD (K := K) rfl hr.units (dat_lst dat_int)) (te_lst (tn_tupList (bp_list T.z_list) (te_fld (fd_Word_letters T) T.cls_Word T.na_Word_letters (te_var 4 (R := (R_Word T)) (f := fun (s : Jar) => l_short200))))) (te_var 3 (R := (RLst RInt)) (f := fun (s : Jar) => l_due157))) (tw_or1 (tt_c (cr_neD (K := K) rfl hr.units (dat_lst dat_int)) (te_callB 0 (fun (s : Jar) => s) (fun (s : Jar) t => t) (ok_l_taken_out T) (hr.mono (by decide)) T.g_l_taken_out T.F_l_taken_out.kp T.b_l_taken_out (ta_cons (te_var 1 (R := (RLst RInt)) (f := fun (s : Jar) => y.1)) ta_nil)) (te_var 3 (R := (RLst RInt)) (f := fun (s : Jar) => l_due157))))))))
  (ts_retB 0 (fun (s : Jar) => s) te_bl)
  (ts_ifr (tt_w (tw_or (tt_c (cr_neD (K := K) rfl hr.units (dat_lst dat_int)) (te_lst (tn_tupList (bp_list T.z_list) (te_fld (fd_Word_letters T) T.cls_Word T.na_Word_letters (te_var 5 (R := (R_Word T)) (f := fun (s : Jar) => l_bare201))))) (te_call (ok_l_ends_off T) (hr.mono (by decide)) T.g_l_ends_off T.F_l_ends_off.kp T.b_l_ends_off (ta_cons (te_var 3 (R := (RLst RInt)) (f := fun (s : Jar) => l_due157)) ta_nil))) (tw_or1 (tt_c (cr_neD (K := K) rfl hr.units (dat_tup dat_int)) (te_fld (fd_Word_letters T) T.cls_Word T.na_Word_letters (te_var 2 (R := (R_Word T)) (f := fun (s : Jar) => l_word156))) (te_tuple_l (bp_tuple T.z_tuple) (te_l (te_var 1 (R := (RLst RInt)) (f := fun (s : Jar) => y.1))))))))
  (ts_retB 0 (fun (s : Jar) => s) te_bl)
  (ts_ifr (tt_w (tw_or (tt_c cr_isnotb (te_fld (fd_Word_is_short T) T.cls_Word T.na_Word_is_short (te_var 4 (R := (R_Word T)) (f := fun (s : Jar) => l_short200))) te_bl) (tw_or (tt_c cr_isnotb (te_fld (fd_Word_is_short_round T) T.cls_Word T.na_Word_is_short_round (te_var 5 (R := (R_Word T)) (f := fun (s : Jar) => l_bare201))) te_bl) (tw_or (tt_c (cr_ownNe (C := T.C_Word) isI isI (ok_Word___eq__ T) (fun x y Kf h => eqW_ok x y Kf h) T.eq_Word T.eqf_Word T.ne_Word T.isc_Word.hm T.b_Word___eq__ (hr.mono (by decide))) (te_meth0 (mn := "shortened") (insR (fun _ => rfl)) (te_var 4 (R := (R_Word T)) (f := fun (s : Jar) => l_short200)) T.cls_Word T.me_Word_shortened (ok_Word_shortened T) (hr.mono (by decide)) T.b_Word_shortened) (te_var 4 (R := (R_Word T)) (f := fun (s : Jar) => l_short200))) (tw_or1 (tt_c (cr_ownNe (C := T.C_Word) isI isI (ok_Word___eq__ T) (fun x y Kf h => eqW_ok x y Kf h) T.eq_Word T.eqf_Word T.ne_Word T.isc_Word.hm T.b_Word___eq__ (hr.mono (by decide))) (te_meth0 (mn := "shortened_round") (insR (fun _ => rfl)) (te_var 5 (R := (R_Word T)) (f := fun (s : Jar) => l_bare201)) T.cls_Word T.me_Word_shortened_round (ok_Word_shortened_round T) (hr.mono (by decide)) T.b_Word_shortened_round) (te_var 5 (R := (R_Word T)) (f := fun (s : Jar) => l_bare201))))))))
  (ts_retB 0 (fun (s : Jar) => s) te_bl)
  (ts_ifr (tt_w (tw_or (tt_c (cr_neD (K := K) rfl hr.units (dat_lst dat_bool)) (te_lst (tn_list (R := RBool) (tl_cons (te_fld (fd_Word_is_short T) T.cls_Word T.na_Word_is_short (te_var 2 (R := (R_Word T)) (f := fun (s : Jar) => l_word156))) (tl_cons (te_fld (fd_Word_is_short_round T) T.cls_Word T.na_Word_is_short_round (te_var 2 (R := (R_Word T)) (f := fun (s : Jar) => l_word156))) tl_nil)))) (te_lst (tn_list (R := RBool) (tl_cons (te_c (cr_ownEq (C := T.C_Word) isI isI (ok_Word___eq__ T) (fun x y Kf h => eqW_ok x y Kf h) T.eq_Word T.eqf_Word T.b_Word___eq__ (hr.mono (by decide))) (te_var 4 (R := (R_Word T)) (f := fun (s : Jar) => l_short200)) (te_var 2 (R := (R_Word T)) (f := fun (s : Jar) => l_word156))) (tl_cons (te_c (cr_ownEq (C := T.C_Word) isI isI (ok_Word___eq__ T) (fun x y Kf h => eqW_ok x y Kf h) T.eq_Word T.eqf_Word T.b_Word___eq__ (hr.mono (by decide))) (te_var 5 (R := (R_Word T)) (f := fun (s : Jar) => l_bare201)) (te_var 2 (R := (R_Word T)) (f := fun (s : Jar) => l_word156))) tl_nil))))) (tw_or1 (tt_c (cr_ownNe (C := T.C_Word) isI isI (ok_Word___eq__ T) (fun x y Kf h => eqW_ok x y Kf h) T.eq_Word T.eqf_Word T.ne_Word T.isc_Word.hm T.b_Word___eq__ (hr.mono (by decide))) (te_meth0 (mn := "shortened") (insR (fun _ => rfl)) (te_meth0 (mn := "contrary") (insR (fun _ => rfl)) (te_var 2 (R := (R_Word T)) (f := fun (s : Jar) => l_word156)) T.cls_Word T.me_Word_contrary (ok_Word_contrary T) (hr.mono (by decide)) T.b_Word_contrary) T.cls_Word T.me_Word_shortened (ok_Word_shortened T) (hr.mono (by decide)) T.b_Word_shortened) (te_meth0 (mn := "contrary") (insR (fun _ => rfl)) (te_var 4 (R := (R_Word T)) (f := fun (s : Jar) => l_short200)) T.cls_Word T.me_Word_contrary (ok_Word_contrary T) (hr.mono (by decide)) T.b_Word_contrary)))))
  (ts_retB 0 (fun (s : Jar) => s) te_bl)
  (ts_retB 0 (fun (s : Jar) => s) (te_chain (cr_ownEq (C := T.C_Word) isI isI (ok_Word___eq__ T) (fun x y Kf h => eqW_ok x y Kf h) T.eq_Word T.eqf_Word T.b_Word___eq__ (hr.mono (by decide))) (cr_ownEq (C := T.C_Word) isI isI (ok_Word___eq__ T) (fun x y Kf h => eqW_ok x y Kf h) T.eq_Word T.eqf_Word T.b_Word___eq__ (hr.mono (by decide))) (te_meth0 (mn := "shortened") (insR (fun _ => rfl)) (te_meth (mn := "then") (insR (fun _ => rfl)) (te_var 2 (R := (R_Word T)) (f := fun (s : Jar) => l_word156)) T.cls_Word T.me_Word_then (ok_Word_then T) (hr.mono (by decide)) T.b_Word_then (ta_cons (te_meth0 (mn := "contrary") (insR (fun _ => rfl)) (te_var 2 (R := (R_Word T)) (f := fun (s : Jar) => l_word156)) T.cls_Word T.me_Word_contrary (ok_Word_contrary T) (hr.mono (by decide)) T.b_Word_contrary) ta_nil)) T.cls_Word T.me_Word_shortened (ok_Word_shortened T) (hr.mono (by decide)) T.b_Word_shortened) (te_make T.mk_Word (ok_Word___init__ T) (hr.mono (by decide)) T.g_Word T.b_Word___init__ (ta_cons (te_lst (tn_list (R := RInt) tl_nil)) ta_nil)) (te_meth0 (mn := "shortened_round") (insR (fun _ => rfl)) (te_meth (mn := "then") (insR (fun _ => rfl)) (te_meth0 (mn := "contrary") (insR (fun _ => rfl)) (te_var 2 (R := (R_Word T)) (f := fun (s : Jar) => l_word156)) T.cls_Word T.me_Word_contrary (ok_Word_contrary T) (hr.mono (by decide)) T.b_Word_contrary) T.cls_Word T.me_Word_then (ok_Word_then T) (hr.mono (by decide)) T.b_Word_then (ta_cons (te_var 2 (R := (R_Word T)) (f := fun (s : Jar) => l_word156)) ta_nil)) T.cls_Word T.me_Word_shortened_round (ok_Word_shortened_round T) (hr.mono (by decide)) T.b_Word_shortened_round)))))))))))) (by exact fun _ h => h)
def m_is_within_v1 (p_value : Int) (p_least : Unit) (p_most : Unit) (Kf : Bool → Prop) : Prop :=
  m_is_integer p_value fun r264 => (if (!r264) = true then Kf false else
  mB (fun (K265 : Bool → Unit → Prop) => mB (fun (K268 : Bool → Unit → Prop) => (if (true) = true then K268 true () else False)) (fun b269 _ => (if b269 = true then mB (fun (K271 : Bool → Unit → Prop) => (if (true) = true then K271 true () else False)) (fun b272 _ => K265 b272 ()) else K265 false ()))) (fun b266 _ => Kf b266))
theorem ok_is_within_v1 (T : Tx K mg) : FnOk P w K mg base CX0 2 T.a_is_within T.d_is_within ["value", "least", "most"] (spP (acons RInt (acons RNon (acons RNon anil))) RBool (fun (y : Int × Unit × Unit × Unit) Kf => m_is_within_v1 y.1 y.2.1 y.2.2.1 Kf)) :=
  fnP T.F_is_within sc_is_within (fun _ => rfl) fun cdv A outer s H E hr y Kf B => ts_use (
  (ts_ifr (tt_not (tt_val (te_call (ok_is_integer T) (hr.mono (by decide)) T.g_is_integer T.F_is_integer.kp T.b_is_integer (ta_cons (te_var 0 (R := RInt) (f := fun (s : Unit) => y.1)) ta_nil))))
  (ts_ret te_bl)
  (ts_ret (te_and (te_or (te_c cr_isNN (te_var 1 (R := RNon) (f := fun (s : Unit) => y.2.1)) te_non) (te_and1 (te_never))) (te_and1 (te_or (te_c cr_isNN (te_var 2 (R := RNon) (f := fun (s : Unit) => y.2.2.1)) te_non) (te_and1 (te_never)))))))) (by exact fun _ h => h)
def m_need_number (p_value : Int) (p_part : Str) (p_least : Unit) (p_most : Unit) (Kf : Unit → Prop) : Prop :=
  m_is_within_v1 p_value p_least p_most fun r274 => (if (!r274) = true then False else
  Kf ())
theorem ok_need_number (T : Tx K mg) : FnOk P w K mg base CX0 3 T.a_need_number T.d_need_number ["value", "part", "least", "most"] (spP (acons RInt (acons RStr (acons RNon (acons RNon anil)))) RNon (fun (y : Int × Str × Unit × Unit × Unit) Kf => m_need_number y.1 y.2.1 y.2.2.1 y.2.2.2.1 Kf)) :=
  fnP T.F_need_number sc_need_number (fun _ => rfl) fun cdv A outer s H E hr y Kf B => ts_use (
  (ts_ifr (tt_not (tt_val (te_call (ok_is_within_v1 T) (hr.mono (by decide)) T.g_is_within T.F_is_within.kp T.b_is_within (ta_cons (te_var 0 (R := RInt) (f := fun (s : Unit) => y.1)) (ta_cons (te_var 2 (R := RNon) (f := fun (s : Unit) => y.2.2.1)) (ta_cons (te_var 3 (R := RNon) (f := fun (s : Unit) => y.2.2.2.1)) ta_nil))))))
  ts_never
  ts_fall)) (by exact fun _ h => h)
def m_Word_times (p_self : D_Word) (p_number : Int) (Kf : D_Word → Prop) : Prop :=
  m_need_number p_number ("number" : Str) () () fun r276 => (if (decide (p_self.length = (0 : Int))) = true then Kf p_self else
  (CMul p_self.length (p_number.natAbs : Int) ∧ m_need_few (p_self.length * (p_number.natAbs : Int)) fun r277 => mB (fun (K278 : (List Int) → Unit → Prop) => (if (decide ((0 : Int) < p_number)) = true then K278 p_self.letters () else m_contrary_of p_self.letters fun r281 => K278 r281 ())) (fun v279 _ => ((-(2 ^ 63) ≤ (p_number.natAbs : Int) ∧ (p_number.natAbs : Int) < 2 ^ 63 ∧ v279.length * (p_number.natAbs : Int).toNat ≤ 1000000) ∧ m_Word___init___v1 (pyRep v279 (p_number.natAbs : Int)) fun w282 => Kf w282))))
theorem ok_Word_times (T : Tx K mg) : FnOk P w K mg base CX0 7 T.a_Word_times T.d_Word_times ["self", "number"] (spP (acons (R_Word T) (acons RInt anil)) (R_Word T) (fun (y : D_Word × Int × Unit) Kf => m_Word_times y.1 y.2.1 Kf)) :=
  fnP T.F_Word_times sc_Word_times (fun _ => rfl) fun cdv A outer s H E hr y Kf B => ts_use (
  (ts_expr (te_call (ok_need_number T) (hr.mono (by decide)) T.g_need_number T.F_need_number.kp T.b_need_number (ta_cons (te_var 1 (R := RInt) (f := fun (s : Unit) => y.2.1)) (ta_cons te_str (ta_cons te_non (ta_cons te_non ta_nil)))))
  (ts_ifr (tt_c (cr_eq flat_int) (te_fld (fd_Word_length T) T.cls_Word T.na_Word_length (te_var 0 (R := (R_Word T)) (f := fun (s : Unit) => y.1))) te_int)
  (ts_ret (te_var 0 (R := (R_Word T)) (f := fun (s : Unit) => y.1)))
  (ts_expr (te_call (ok_need_few T) (hr.mono (by decide)) T.g_need_few T.F_need_few.kp T.b_need_few (ta_cons (te_mul (te_fld (fd_Word_length T) T.cls_Word T.na_Word_length (te_var 0 (R := (R_Word T)) (f := fun (s : Unit) => y.1))) (te_abs (bp_abs T.z_abs) (te_var 1 (R := RInt) (f := fun (s : Unit) => y.2.1)))) ta_nil))
  (ts_set (i := 2) (R := (RTup K RInt)) (ps_set sc_Word_times.nd rfl (Or.inl rfl) (te_if (tt_c cr_gt (te_var 1 (R := RInt) (f := fun (s : Unit) => y.2.1)) te_int) (te_fld (fd_Word_letters T) T.cls_Word T.na_Word_letters (te_var 0 (R := (R_Word T)) (f := fun (s : Unit) => y.1))) (te_call (ok_contrary_of T) (hr.mono (by decide)) T.g_contrary_of T.F_contrary_of.kp T.b_contrary_of (ta_cons (te_fld (fd_Word_letters T) T.cls_Word T.na_Word_letters (te_var 0 (R := (R_Word T)) (f := fun (s : Unit) => y.1))) ta_nil)))) (fun letters275 =>
  (ts_ret (te_make T.mk_Word (ok_Word___init___v1 T) (hr.mono (by decide)) T.g_Word T.b_Word___init__ (ta_cons (te_repT (te_var 2 (R := (RTup K RInt)) (f := fun (s : Unit) => letters275)) (te_abs (bp_abs T.z_abs) (te_var 1 (R := RInt) (f := fun (s : Unit) => y.2.1)))) ta_nil))))))))) (by exact fun _ h => h)
def m_l_behind_right (p_l_letters_here : (List Int)) (p_l_others : (List Int)) (t : Jar) (Kf : Bool → Jar → Prop) : Prop :=
  m_Word___init__ p_l_letters_here fun w288 => m_Word___init__ p_l_others fun w289 => m_Word_then w288 w289 fun r291 => m_Word_shortened r291 fun r290 => mB (fun (K292 : Bool → Jar → Prop) => m_Word_shortened w288 fun r297 => m_Word_shortened w289 fun r298 => m_Word_then r297 r298 fun r296 => m_Word_shortened r296 fun r295 => (if (!eqW r290 r295) = true then K292 true t else (p_l_letters_here.length + p_l_others.length ≤ 1000000 ∧ m_l_taken_out (p_l_letters_here ++ p_l_others) t fun r299 t300 => K292 (!decide (r290.letters = r299)) t300))) (fun b293 s294 => (if b293 = true then Kf false s294 else
  m_l_draw (7 : Int) s294 fun r301 t302 => (fun (l_number263 : Int) => m_Word_times w288 l_number263 fun r304 => m_Word_shortened r304 fun r303 => m_Word_shortened w288 fun r307 => m_Word_times r307 l_number263 fun r306 => m_Word_shortened r306 fun r305 => (if (!eqW r303 r305) = true then Kf false t302 else
  m_Word_then w289 w288 fun r310 => m_Word_contrary w289 fun r311 => m_Word_then r310 r311 fun r309 => m_Word_shortened_round r309 fun r308 => m_l_taken_out p_l_letters_here t302 fun r313 t314 => m_l_ends_off r313 fun r312 => (([] : List Int).length ≤ 1000000 ∧ (if (decide (r312 = ([] : List Int))) = true then (([] : List Int).length ≤ 1000000 ∧ m_Word___init__ ([] : List Int) fun w315 => Kf (eqW r308 w315) t314) else
  ((-(2 ^ 62) ≤ (r312.length : Int) ∧ (r312.length : Int) < 2 ^ 62) ∧ ((rangeL 0 (r312.length : Int)).length ≤ 1000000 ∧ mMap (rangeL 0 (r312.length : Int)) (fun (x285 : Int) K287 => ((pyCut r312 (some x285) none).length + (pyCut r312 none (some x285)).length ≤ 1000000 ∧ K287 ((pyCut r312 (some x285) none) ++ (pyCut r312 none (some x285))))) fun ys316 => Kf (memB r308.letters ys316) t314)))))) (r301 - (3 : Int))))
theorem ok_l_behind_right (T : Tx K mg) : FnOk P w K mg base CX0 8 T.a_l_behind_right T.d_l_behind_right ["_law_jar_here", "_law_letters_here", "_law_others"] (spB OJar (acons (RLst RInt) (acons (RLst RInt) anil)) RBool (fun (y : (List Int) × (List Int) × Unit) t Kf => m_l_behind_right y.1 y.2.1 t Kf)) :=
  fnB T.F_l_behind_right sc_l_behind_right (fun _ => rfl) fun cdv A outer s H E hr j y Kf B => ts_use (
  (ts_par (i := 3) (j := 4) (Ra := (R_Word T)) (Rb := (R_Word T)) (ps_par rfl sc_l_behind_right.nd rfl rfl (by decide) rfl rfl (pa_cons (te_make T.mk_Word (ok_Word___init__ T) (hr.mono (by decide)) T.g_Word T.b_Word___init__ (ta_cons (te_var 1 (R := (RLst RInt)) (f := fun (s : Jar) => y.1)) ta_nil)) (pa_cons (te_make T.mk_Word (ok_Word___init__ T) (hr.mono (by decide)) T.g_Word T.b_Word___init__ (ta_cons (te_var 2 (R := (RLst RInt)) (f := fun (s : Jar) => y.2.1)) ta_nil)) pa_nil)) (by rfl)) (fun l_word260 l_other261 =>
  (ts_set (i := 5) (R := (R_Word T)) (ps_set sc_l_behind_right.nd rfl (Or.inl rfl) (te_meth0 (mn := "shortened") (insR (fun _ => rfl)) (te_meth (mn := "then") (insR (fun _ => rfl)) (te_var 3 (R := (R_Word T)) (f := fun (s : Jar) => l_word260)) T.cls_Word T.me_Word_then (ok_Word_then T) (hr.mono (by decide)) T.b_Word_then (ta_cons (te_var 4 (R := (R_Word T)) (f := fun (s : Jar) => l_other261)) ta_nil)) T.cls_Word T.me_Word_shortened (ok_Word_shortened T) (hr.mono (by decide)) T.b_Word_shortened)) (fun l_whole262 =>
  (ts_ifr (tt_w (tw_or (tt_c (cr_ownNe (C := T.C_Word) isI isI (ok_Word___eq__ T) (fun x y Kf h => eqW_ok x y Kf h) T.eq_Word T.eqf_Word T.ne_Word T.isc_Word.hm T.b_Word___eq__ (hr.mono (by decide))) (te_var 5 (R := (R_Word T)) (f := fun (s : Jar) => l_whole262)) (te_meth0 (mn := "shortened") (insR (fun _ => rfl)) (te_meth (mn := "then") (insR (fun _ => rfl)) (te_meth0 (mn := "shortened") (insR (fun _ => rfl)) (te_var 3 (R := (R_Word T)) (f := fun (s : Jar) => l_word260)) T.cls_Word T.me_Word_shortened (ok_Word_shortened T) (hr.mono (by decide)) T.b_Word_shortened) T.cls_Word T.me_Word_then (ok_Word_then T) (hr.mono (by decide)) T.b_Word_then (ta_cons (te_meth0 (mn := "shortened") (insR (fun _ => rfl)) (te_var 4 (R := (R_Word T)) (f := fun (s : Jar) => l_other261)) T.cls_Word T.me_Word_shortened (ok_Word_shortened T) (hr.mono (by decide)) T.b_Word_shortened) ta_nil)) T.cls_Word T.me_Word_shortened (ok_Word_shortened T) (hr.mono (by decide)) T.b_Word_shortened)) (tw_or1 (tt_c (cr_neD (K := K) rfl hr.units (dat_lst dat_int)) (te_lst (tn_tupList (bp_list T.z_list) (te_fld (fd_Word_letters T) T.cls_Word T.na_Word_letters (te_var 5 (R := (R_Word T)) (f := fun (s : Jar) => l_whole262))))) (te_callB 0 (fun (s : Jar) => s) (fun (s : Jar) t => t) (ok_l_taken_out T) (hr.mono (by decide)) T.g_l_taken_out T.F_l_taken_out.kp T.b_l_taken_out (ta_cons (te_lst (tn_cat (te_var 1 (R := (RLst RInt)) (f := fun (s : Jar) => y.1)) (te_var 2 (R := (RLst RInt)) (f := fun (s : Jar) => y.2.1)))) ta_nil))))))
  (ts_retB 0 (fun (s : Jar) => s) te_bl)
  (ts_set (i := 6) (R := RInt) (ps_set sc_l_behind_right.nd rfl (Or.inl rfl) (te_sub (te_callB 0 (fun (s : Jar) => s) (fun (s : Jar) t => t) (ok_l_draw T) (hr.mono (by decide)) T.g_l_draw T.F_l_draw.kp T.b_l_draw (ta_cons te_int ta_nil)) te_int)) (fun l_number263 =>
  (ts_ifr (tt_c (cr_ownNe (C := T.C_Word) isI isI (ok_Word___eq__ T) (fun x y Kf h => eqW_ok x y Kf h) T.eq_Word T.eqf_Word T.ne_Word T.isc_Word.hm T.b_Word___eq__ (hr.mono (by decide))) (te_meth0 (mn := "shortened") (insR (fun _ => rfl)) (te_meth (mn := "times") (insR (fun _ => rfl)) (te_var 3 (R := (R_Word T)) (f := fun (s : Jar) => l_word260)) T.cls_Word T.me_Word_times (ok_Word_times T) (hr.mono (by decide)) T.b_Word_times (ta_cons (te_var 6 (R := RInt) (f := fun (s : Jar) => l_number263)) ta_nil)) T.cls_Word T.me_Word_shortened (ok_Word_shortened T) (hr.mono (by decide)) T.b_Word_shortened) (te_meth0 (mn := "shortened") (insR (fun _ => rfl)) (te_meth (mn := "times") (insR (fun _ => rfl)) (te_meth0 (mn := "shortened") (insR (fun _ => rfl)) (te_var 3 (R := (R_Word T)) (f := fun (s : Jar) => l_word260)) T.cls_Word T.me_Word_shortened (ok_Word_shortened T) (hr.mono (by decide)) T.b_Word_shortened) T.cls_Word T.me_Word_times (ok_Word_times T) (hr.mono (by decide)) T.b_Word_times (ta_cons (te_var 6 (R := RInt) (f := fun (s : Jar) => l_number263)) ta_nil)) T.cls_Word T.me_Word_shortened (ok_Word_shortened T) (hr.mono (by decide)) T.b_Word_shortened))
  (ts_retB 0 (fun (s : Jar) => s) te_bl)
  (ts_set (i := 7) (R := (R_Word T)) (ps_set sc_l_behind_right.nd rfl (Or.inl rfl) (te_meth0 (mn := "shortened_round") (insR (fun _ => rfl)) (te_meth (mn := "then") (insR (fun _ => rfl)) (te_meth (mn := "then") (insR (fun _ => rfl)) (te_var 4 (R := (R_Word T)) (f := fun (s : Jar) => l_other261)) T.cls_Word T.me_Word_then (ok_Word_then T) (hr.mono (by decide)) T.b_Word_then (ta_cons (te_var 3 (R := (R_Word T)) (f := fun (s : Jar) => l_word260)) ta_nil)) T.cls_Word T.me_Word_then (ok_Word_then T) (hr.mono (by decide)) T.b_Word_then (ta_cons (te_meth0 (mn := "contrary") (insR (fun _ => rfl)) (te_var 4 (R := (R_Word T)) (f := fun (s : Jar) => l_other261)) T.cls_Word T.me_Word_contrary (ok_Word_contrary T) (hr.mono (by decide)) T.b_Word_contrary) ta_nil)) T.cls_Word T.me_Word_shortened_round (ok_Word_shortened_round T) (hr.mono (by decide)) T.b_Word_shortened_round)) (fun l_moved283 =>
  (ts_set (i := 8) (R := (RLst RInt)) (ps_set sc_l_behind_right.nd rfl (Or.inr rfl) (te_call (ok_l_ends_off T) (hr.mono (by decide)) T.g_l_ends_off T.F_l_ends_off.kp T.b_l_ends_off (ta_cons (te_callB 0 (fun (s : Jar) => s) (fun (s : Jar) t => t) (ok_l_taken_out T) (hr.mono (by decide)) T.g_l_taken_out T.F_l_taken_out.kp T.b_l_taken_out (ta_cons (te_var 1 (R := (RLst RInt)) (f := fun (s : Jar) => y.1)) ta_nil)) ta_nil))) (fun l_bare284 =>
  (ts_ifr (tt_c (cr_eqD (K := K) rfl hr.units (dat_lst dat_int)) (te_var 8 (R := (RLst RInt)) (f := fun (s : Jar) => l_bare284)) (te_lst (tn_list (R := RInt) tl_nil)))
  (ts_retB 0 (fun (s : Jar) => s) (te_c (cr_ownEq (C := T.C_Word) isI isI (ok_Word___eq__ T) (fun x y Kf h => eqW_ok x y Kf h) T.eq_Word T.eqf_Word T.b_Word___eq__ (hr.mono (by decide))) (te_var 7 (R := (R_Word T)) (f := fun (s : Jar) => l_moved283)) (te_make T.mk_Word (ok_Word___init__ T) (hr.mono (by decide)) T.g_Word T.b_Word___init__ (ta_cons (te_lst (tn_list (R := RInt) tl_nil)) ta_nil))))
  (ts_retB 0 (fun (s : Jar) => s) (te_c (cr_in (K := K) rfl (units65 hr) (dat_tup dat_int)) (te_tuple_t (bp_tuple T.z_tuple) (te_fld (fd_Word_letters T) T.cls_Word T.na_Word_letters (te_var 7 (R := (R_Word T)) (f := fun (s : Jar) => l_moved283)))) (te_lst (tn_map sc_l_behind_right.nd (ti_range1 T.z_range (te_len (bp_len T.z_len) lens_list (te_l (te_var 8 (R := (RLst RInt)) (f := fun (s : Jar) => l_bare284))))) (blkOk_by (own := [("_law_at", 9)]) (N := ["_law_jar_here", "_law_letters_here", "_law_others", "_law_word", "_law_other", "_law_whole", "_law_number", "_law_moved", "_law_bare", "_law_at"]) (sc := defScope s_l_behind_right) (by decide +kernel)) (fun _ _ _ _ _ => (pg_name (i := 9) sc_l_behind_right.nd rfl (Or.inl rfl))) (tg_name 9) (fun s286 x285 B' s H C cl fp => (te_tuple_l (bp_tuple T.z_tuple) (te_known (K := K) (tn_cat (te_lst (tn_cut (te_l (te_var 8 (R := (RLst RInt)) (f := fun (s : Unit) => l_bare284))) (to_some (te_var 9 (R := RInt) (f := fun (s : Unit) => x285))) to_none)) (te_lst (tn_cut (te_l (te_var 8 (R := (RLst RInt)) (f := fun (s : Unit) => l_bare284))) to_none (to_some (te_var 9 (R := RInt) (f := fun (s : Unit) => x285))))))))))))))))))))))))))) (by exact fun _ h => h)
def m_l_core_right (p_l_letters_here : (List Int)) (t : Jar) (Kf : Bool → Jar → Prop) : Prop :=
  m_l_taken_out p_l_letters_here t fun r322 t323 => m_l_ends_off r322 fun r324 => (CDivN ((r322.length : Int) - (r324.length : Int)) (2 : Int) ∧ (fun (l_end319 : Int) => m_l_draw (4 : Int) t323 fun r325 t326 => (fun (l_number320 : Int) => m_Word___init__ p_l_letters_here fun w329 => m_Word_times w329 l_number320 fun r328 => m_Word_shortened r328 fun r327 => ((-(2 ^ 63) ≤ l_number320 ∧ l_number320 < 2 ^ 63 ∧ r324.length * l_number320.toNat ≤ 1000000) ∧ ((pyCut r322 none (some l_end319)).length + (pyRep r324 l_number320).length ≤ 1000000 ∧ (((pyCut r322 none (some l_end319)) ++ (pyRep r324 l_number320)).length + (pyCut r322 (some ((r322.length : Int) - l_end319)) none).length ≤ 1000000 ∧ Kf (decide (r327.letters = (((pyCut r322 none (some l_end319)) ++ (pyRep r324 l_number320)) ++ (pyCut r322 (some ((r322.length : Int) - l_end319)) none)))) t326)))) ((1 : Int) + r325)) (((r322.length : Int) - (r324.length : Int)).fdiv (2 : Int)))
theorem ok_l_core_right (T : Tx K mg) : FnOk P w K mg base CX0 8 T.a_l_core_right T.d_l_core_right ["_law_jar_here", "_law_letters_here"] (spB OJar (acons (RLst RInt) anil) RBool (fun (y : (List Int) × Unit) t Kf => m_l_core_right y.1 t Kf)) :=
  fnB T.F_l_core_right sc_l_core_right (fun _ => rfl) fun cdv A outer s H E hr j y Kf B => ts_use (
  (ts_set (i := 2) (R := (RLst RInt)) (ps_set sc_l_core_right.nd rfl (Or.inl rfl) (te_callB 0 (fun (s : Jar) => s) (fun (s : Jar) t => t) (ok_l_taken_out T) (hr.mono (by decide)) T.g_l_taken_out T.F_l_taken_out.kp T.b_l_taken_out (ta_cons (te_var 1 (R := (RLst RInt)) (f := fun (s : Jar) => y.1)) ta_nil))) (fun l_due317 =>
  (ts_set (i := 3) (R := (RLst RInt)) (ps_set sc_l_core_right.nd rfl (Or.inl rfl) (te_call (ok_l_ends_off T) (hr.mono (by decide)) T.g_l_ends_off T.F_l_ends_off.kp T.b_l_ends_off (ta_cons (te_var 2 (R := (RLst RInt)) (f := fun (s : Jar) => l_due317)) ta_nil))) (fun l_bare318 =>
  (ts_par (i := 4) (j := 5) (Ra := RInt) (Rb := RInt) (ps_par rfl sc_l_core_right.nd rfl rfl (by decide) rfl rfl (pa_cons (te_toint (bp_int T.z_int) (te_fdiv (te_sub (te_len (bp_len T.z_len) lens_list (te_l (te_var 2 (R := (RLst RInt)) (f := fun (s : Jar) => l_due317)))) (te_len (bp_len T.z_len) lens_list (te_l (te_var 3 (R := (RLst RInt)) (f := fun (s : Jar) => l_bare318))))) te_int)) (pa_cons (te_add te_int (te_callB 0 (fun (s : Jar) => s) (fun (s : Jar) t => t) (ok_l_draw T) (hr.mono (by decide)) T.g_l_draw T.F_l_draw.kp T.b_l_draw (ta_cons te_int ta_nil))) pa_nil)) (by rfl)) (fun l_end319 l_number320 =>
  (ts_set (i := 6) (R := (R_Word T)) (ps_set sc_l_core_right.nd rfl (Or.inl rfl) (te_meth0 (mn := "shortened") (insR (fun _ => rfl)) (te_meth (mn := "times") (insR (fun _ => rfl)) (te_make T.mk_Word (ok_Word___init__ T) (hr.mono (by decide)) T.g_Word T.b_Word___init__ (ta_cons (te_var 1 (R := (RLst RInt)) (f := fun (s : Jar) => y.1)) ta_nil)) T.cls_Word T.me_Word_times (ok_Word_times T) (hr.mono (by decide)) T.b_Word_times (ta_cons (te_var 5 (R := RInt) (f := fun (s : Jar) => l_number320)) ta_nil)) T.cls_Word T.me_Word_shortened (ok_Word_shortened T) (hr.mono (by decide)) T.b_Word_shortened)) (fun l_told321 =>
  (ts_retB 0 (fun (s : Jar) => s) (te_c (cr_eqD (K := K) rfl hr.units (dat_lst dat_int)) (te_lst (tn_tupList (bp_list T.z_list) (te_fld (fd_Word_letters T) T.cls_Word T.na_Word_letters (te_var 6 (R := (R_Word T)) (f := fun (s : Jar) => l_told321))))) (te_lst (tn_cat (te_lst (tn_cat (te_lst (tn_cut (te_l (te_var 2 (R := (RLst RInt)) (f := fun (s : Jar) => l_due317))) to_none (to_some (te_var 4 (R := RInt) (f := fun (s : Jar) => l_end319))))) (te_lst (tn_rep (te_var 3 (R := (RLst RInt)) (f := fun (s : Jar) => l_bare318)) (te_var 5 (R := RInt) (f := fun (s : Jar) => l_number320)))))) (te_lst (tn_cut (te_l (te_var 2 (R := (RLst RInt)) (f := fun (s : Jar) => l_due317))) (to_some (te_sub (te_len (bp_len T.z_len) lens_list (te_l (te_var 2 (R := (RLst RInt)) (f := fun (s : Jar) => l_due317)))) (te_var 4 (R := RInt) (f := fun (s : Jar) => l_end319)))) to_none))))))))))))))) (by exact fun _ h => h)
def m_l_great_right  (t : Jar) (Kf : Bool → Jar → Prop) : Prop :=
  m_l_draw (3 : Int) t fun r346 t347 => m_l_letters ((250 : Int) - r346) (3 : Int) t347 fun r344 t345 => (CMul (2 : Int) (r344.length : Int) ∧ m_l_letters ((500 : Int) - ((2 : Int) * (r344.length : Int))) (2 : Int) t345 fun r348 t349 => (r344.length + r348.length ≤ 1000000 ∧ m_l_contrary r344 fun r351 => ((r344 ++ r348).length + r351.length ≤ 1000000 ∧ m_Word___init__ ((r344 ++ r348) ++ r351) fun w350 => (([] : List Int).length ≤ 1000000 ∧ m_l_taken_out r348 t349 fun r352 t353 => (r344.length + r352.length ≤ 1000000 ∧ m_l_contrary r344 fun r354 => ((r344 ++ r352).length + r354.length ≤ 1000000 ∧ mFor ((r344 ++ r352) ++ r354) (fun (l_letter337 : Int) (s342 : Jar × (List Int)) Kn338 => mB (fun (K355 : Bool → Jar × (List Int) → Prop) => (if (!s342.2.isEmpty) = true then (∃ v358, pyAt s342.2 (-(1 : Int)) = some v358 ∧ K355 (decide (v358 = (-l_letter337))) (s342.1, s342.2)) else K355 false (s342.1, s342.2))) (fun b356 s357 => mIf b356 (fun (Kn339 : Jar × (List Int) → Prop) => (∃ v359, s357.2[s357.2.length - 1]? = some v359 ∧ Kn339 (s357.1, s357.2.dropLast))) (fun (Kn340 : Jar × (List Int) → Prop) => (s357.2.length ≤ 1000000 ∧ Kn340 (s357.1, (s357.2 ++ [l_letter337])))) (fun (s341 : Jar × (List Int)) =>
  Kn338 (s341.1, s341.2)))) (t353, ([] : List Int)) (fun (s343 : Jar × (List Int)) =>
  mB (fun (K360 : Bool → Jar × (List Int) → Prop) => m_Word_shortened w350 fun r363 => (if (decide (r363.letters = s343.2)) = true then m_Word_shortened_round w350 fun r364 => m_l_ends_off s343.2 fun r365 => K360 (decide (r364.letters = r365)) (s343.1, s343.2) else K360 false (s343.1, s343.2))) (fun b361 s362 => Kf b361 s362.1))))))))
theorem ok_l_great_right (T : Tx K mg) : FnOk P w K mg base CX0 8 T.a_l_great_right T.d_l_great_right ["_law_jar_here"] (spB OJar anil RBool (fun (y : Unit) t Kf => m_l_great_right  t Kf)) :=
  fnB T.F_l_great_right sc_l_great_right (fun _ => rfl) fun cdv A outer s H E hr j y Kf B => ts_use (
  (ts_set (i := 1) (R := (RLst RInt)) (ps_set sc_l_great_right.nd rfl (Or.inl rfl) (te_callB 0 (fun (s : Jar) => s) (fun (s : Jar) t => t) (ok_l_letters T) (hr.mono (by decide)) T.g_l_letters T.F_l_letters.kp T.b_l_letters (ta_cons (te_sub te_int (te_callB 0 (fun (s : Jar) => s) (fun (s : Jar) t => t) (ok_l_draw T) (hr.mono (by decide)) T.g_l_draw T.F_l_draw.kp T.b_l_draw (ta_cons te_int ta_nil))) (ta_cons te_int ta_nil)))) (fun l_half333 =>
  (ts_set (i := 2) (R := (RLst RInt)) (ps_set sc_l_great_right.nd rfl (Or.inl rfl) (te_callB 0 (fun (s : Jar) => s) (fun (s : Jar) t => t) (ok_l_letters T) (hr.mono (by decide)) T.g_l_letters T.F_l_letters.kp T.b_l_letters (ta_cons (te_sub te_int (te_mul te_int (te_len (bp_len T.z_len) lens_list (te_l (te_var 1 (R := (RLst RInt)) (f := fun (s : Jar) => l_half333)))))) (ta_cons te_int ta_nil)))) (fun l_middle334 =>
  (ts_set (i := 3) (R := (R_Word T)) (ps_set sc_l_great_right.nd rfl (Or.inl rfl) (te_make T.mk_Word (ok_Word___init__ T) (hr.mono (by decide)) T.g_Word T.b_Word___init__ (ta_cons (te_lst (tn_cat (te_lst (tn_cat (te_var 1 (R := (RLst RInt)) (f := fun (s : Jar) => l_half333)) (te_var 2 (R := (RLst RInt)) (f := fun (s : Jar) => l_middle334)))) (te_call (ok_l_contrary T) (hr.mono (by decide)) T.g_l_contrary T.F_l_contrary.kp T.b_l_contrary (ta_cons (te_var 1 (R := (RLst RInt)) (f := fun (s : Jar) => l_half333)) ta_nil)))) ta_nil))) (fun l_word335 =>
  (ts_parO (i := 4) (j := 5) (Γ' := fun l_due336 (s : Jar × (List Int)) => [.bo j (OJar s.1), .im ((RLst RInt) l_half333), .im ((RLst RInt) l_middle334), .im ((R_Word T) l_word335), .im ((RLst RInt) l_due336), .ow (OList RInt s.2), .any]) (mk := fun (s : Jar) y => (s, y)) (ps_par rfl sc_l_great_right.nd rfl rfl (by decide) rfl rfl (pa_cons (te_var 2 (R := (RLst RInt)) (f := fun (s : Jar) => l_middle334)) (pa_cons (tn_list (R := RInt) tl_nil) pa_nil)) (by rfl)) (fun _ _ _ => rfl) (by decide) (fun l_due336 =>
  (ts_for (Γh := fun s : Jar × (List Int) => [.bo j (OJar s.1), .im ((RLst RInt) l_half333), .im ((RLst RInt) l_middle334), .im ((R_Word T) l_word335), .im ((RLst RInt) l_due336), .ow (OList RInt s.2), .any]) (fun (s : Jar × (List Int)) => (s.1, s.2)) (fun s => (.same (.same (.same (.same (.same (.same (.drop .nil)))))))) (ti_list (K := K) (te_known (K := K) (tn_cat (te_lst (tn_cat (te_var 1 (R := (RLst RInt)) (f := fun (s : Jar × (List Int)) => l_half333)) (te_callB 0 (fun (s : Jar × (List Int)) => s.1) (fun (s : Jar × (List Int)) t => (t, s.2)) (ok_l_taken_out T) (hr.mono (by decide)) T.g_l_taken_out T.F_l_taken_out.kp T.b_l_taken_out (ta_cons (te_var 4 (R := (RLst RInt)) (f := fun (s : Jar × (List Int)) => l_due336)) ta_nil)))) (te_call (ok_l_contrary T) (hr.mono (by decide)) T.g_l_contrary T.F_l_contrary.kp T.b_l_contrary (ta_cons (te_var 1 (R := (RLst RInt)) (f := fun (s : Jar × (List Int)) => l_half333)) ta_nil))))) (pg_name (i := 6) sc_l_great_right.nd rfl (Or.inl rfl)) (tg_name 6)
  (fun q l_letter337 Kn338 => (ts_if (Γj := fun s : Jar × (List Int) => [.bo j (OJar s.1), .im ((RLst RInt) l_half333), .im ((RLst RInt) l_middle334), .im ((R_Word T) l_word335), .im ((RLst RInt) l_due336), .ow (OList RInt s.2), .im (RInt l_letter337)]) (tt_w (tw_and (tt_ownNe0 5 (fun (s : Jar × (List Int)) => s.2) (R := RInt) (K := K) hr.units dat_int) (tw_and1 (tt_c (cr_eq flat_int) (te_ownIx 5 (fun (s : Jar × (List Int)) => s.2) (R := RInt) (te_neg te_int)) (te_neg (te_var 6 (R := RInt) (f := fun (s : Jar × (List Int)) => l_letter337)))))))
  (fun Kn339 => (ts_expr (te_pop 5 (fun (s : Jar × (List Int)) => s.2) (fun (s : Jar × (List Int)) t => (s.1, t)) (R := RInt))
  (ts_end (Γj := fun s : Jar × (List Int) => [.bo j (OJar s.1), .im ((RLst RInt) l_half333), .im ((RLst RInt) l_middle334), .im ((R_Word T) l_word335), .im ((RLst RInt) l_due336), .ow (OList RInt s.2), .im (RInt l_letter337)]) (fun (s : Jar × (List Int)) => (s.1, s.2)) (fun s => (.same (.same (.same (.same (.same (.same (.same .nil)))))))))))
  (fun Kn340 => (ts_expr (te_append 5 (fun (s : Jar × (List Int)) => s.2) (fun (s : Jar × (List Int)) t => (s.1, t)) (R := RInt) (te_var 6 (R := RInt) (f := fun (s : Jar × (List Int)) => l_letter337)))
  (ts_end (Γj := fun s : Jar × (List Int) => [.bo j (OJar s.1), .im ((RLst RInt) l_half333), .im ((RLst RInt) l_middle334), .im ((R_Word T) l_word335), .im ((RLst RInt) l_due336), .ow (OList RInt s.2), .im (RInt l_letter337)]) (fun (s : Jar × (List Int)) => (s.1, s.2)) (fun s => (.same (.same (.same (.same (.same (.same (.same .nil)))))))))))
  (ts_end (Γj := fun s : Jar × (List Int) => [.bo j (OJar s.1), .im ((RLst RInt) l_half333), .im ((RLst RInt) l_middle334), .im ((R_Word T) l_word335), .im ((RLst RInt) l_due336), .ow (OList RInt s.2), .any]) (fun (s : Jar × (List Int)) => (s.1, s.2)) (fun s => (.same (.same (.same (.same (.same (.same (.drop .nil)))))))))))
  (ts_freeze 5 (Γ' := fun (s : Jar × (List Int)) => [.bo j (OJar s.1), .im ((RLst RInt) l_half333), .im ((RLst RInt) l_middle334), .im ((R_Word T) l_word335), .im ((RLst RInt) l_due336), .im ((RLst RInt) s.2), .any]) (get := fun (s : Jar × (List Int)) => s.2) (fun _ => rfl) (fun _ => rfl)
  (ts_retB 0 (fun (s : Jar × (List Int)) => s.1) (te_and (te_c (cr_eqD (K := K) rfl hr.units (dat_lst dat_int)) (te_lst (tn_tupList (bp_list T.z_list) (te_fld (fd_Word_letters T) T.cls_Word T.na_Word_letters (te_meth0 (mn := "shortened") (insR (fun _ => rfl)) (te_var 3 (R := (R_Word T)) (f := fun (s : Jar × (List Int)) => l_word335)) T.cls_Word T.me_Word_shortened (ok_Word_shortened T) (hr.mono (by decide)) T.b_Word_shortened)))) (te_var 5 (R := (RLst RInt)) (f := fun (s : Jar × (List Int)) => s.2))) (te_and1 (te_c (cr_eqD (K := K) rfl hr.units (dat_lst dat_int)) (te_lst (tn_tupList (bp_list T.z_list) (te_fld (fd_Word_letters T) T.cls_Word T.na_Word_letters (te_meth0 (mn := "shortened_round") (insR (fun _ => rfl)) (te_var 3 (R := (R_Word T)) (f := fun (s : Jar × (List Int)) => l_word335)) T.cls_Word T.me_Word_shortened_round (ok_Word_shortened_round T) (hr.mono (by decide)) T.b_Word_shortened_round)))) (te_call (ok_l_ends_off T) (hr.mono (by decide)) T.g_l_ends_off T.F_l_ends_off.kp T.b_l_ends_off (ta_cons (te_var 5 (R := (RLst RInt)) (f := fun (s : Jar × (List Int)) => s.2)) ta_nil))))))) PassesOwn.never)))))))))) (by exact fun _ h => h)
def m_law (p_l_script : (List Int)) (Kf : Bool → Prop) : Prop :=
  m_l_jar p_l_script fun t368 => ((-(2 ^ 62) ≤ (4 : Int) ∧ (4 : Int) < 2 ^ 62) ∧ mFor (rangeL 0 (4 : Int)) (fun (l_lap5 : Int) (s366 : Jar) Kn6 => m_l_draw (3 : Int) s366 fun r369 t370 => (fun (l_kinds22 : Int) => ([(0 : Int), (1 : Int), (2 : Int), (4 : Int), (6 : Int), (9 : Int), (14 : Int), (30 : Int)].length ≤ 1000000 ∧ m_l_pick [(0 : Int), (1 : Int), (2 : Int), (4 : Int), (6 : Int), (9 : Int), (14 : Int), (30 : Int)] t370 fun r373 t374 => m_l_letters r373 l_kinds22 t374 fun r371 t372 => m_l_draw (3 : Int) t372 fun r375 t376 => mIf (decide (r375 = (0 : Int))) (fun (Kn53 : Jar × (List Int) → Prop) => m_l_draw (5 : Int) t376 fun r379 t380 => m_l_put_in r371 ((1 : Int) + r379) l_kinds22 t380 fun r377 t378 => Kn53 (t378, r377)) (fun (Kn54 : Jar × (List Int) → Prop) => Kn54 (t376, r371)) (fun (s332 : Jar × (List Int)) =>
  m_l_draw (3 : Int) s332.1 fun r381 t382 => mIf (decide (r381 = (0 : Int))) (fun (Kn62 : Jar × (List Int) → Prop) => m_l_draw (4 : Int) t382 fun r385 t386 => m_l_letters ((1 : Int) + r385) l_kinds22 t386 fun r383 t384 => (r383.length + s332.2.length ≤ 1000000 ∧ m_l_contrary r383 fun r387 => ((r383 ++ s332.2).length + r387.length ≤ 1000000 ∧ (fun (l_letters_here65 : (List Int)) => Kn62 (t384, l_letters_here65)) ((r383 ++ s332.2) ++ r387)))) (fun (Kn63 : Jar × (List Int) → Prop) => Kn63 (t382, s332.2)) (fun (s331 : Jar × (List Int)) =>
  m_l_draw (8 : Int) s331.1 fun r390 t391 => m_l_letters r390 l_kinds22 t391 fun r388 t389 => m_l_draw (4 : Int) t389 fun r392 t393 => mIf (decide (r392 = (0 : Int))) (fun (Kn68 : Jar × (List Int) × (List Int) → Prop) => (CDivN (s331.2.length : Int) (2 : Int) ∧ m_l_contrary (pyCut s331.2 (some ((s331.2.length : Int).fdiv (2 : Int))) none) fun r394 => (r394.length + r388.length ≤ 1000000 ∧ (fun (l_others70 : (List Int)) => Kn68 (t393, s331.2, l_others70)) (r394 ++ r388)))) (fun (Kn69 : Jar × (List Int) × (List Int) → Prop) => Kn69 (t393, s331.2, r388)) (fun (s330 : Jar × (List Int) × (List Int)) =>
  mB (fun (K395 : Bool → Jar × (List Int) × (List Int) → Prop) => m_l_short_right s330.2.1 s330.1 fun r398 t399 => (if (!r398) = true then K395 true (t399, s330.2.1, s330.2.2) else m_l_behind_right s330.2.1 s330.2.2 t399 fun r400 t401 => (if (!r400) = true then K395 true (t401, s330.2.1, s330.2.2) else m_l_core_right s330.2.1 t401 fun r402 t403 => K395 (!r402) (t403, s330.2.1, s330.2.2)))) (fun b396 s397 => (if b396 = true then Kf false else
  Kn6 s397.1))))))) ((1 : Int) + r369)) t368 (fun (s367 : Jar) =>
  m_l_great_right s367 fun r404 t405 => Kf r404))
theorem ok_law (T : Tx K mg) : FnOk P w K mg base CX0 9 T.a_law T.d_law ["_law_script"] (spP (acons (RList K RInt) anil) RBool (fun (y : (List Int) × Unit) Kf => m_law y.1 Kf)) :=
  fnP T.F_law sc_law (fun _ => rfl) fun cdv A outer s H E hr y Kf B => ts_use (
  (ts_setCallO (i := 1) (O := OJar) (Γ' := fun (s : Jar) => [.im ((RList K RInt) y.1), .ow (OJar s), .any, .any, .any, .any, .any]) (mk := fun (s : Unit) t => t) sc_law.nd (ok_l_jar T) (hr.mono (by decide)) T.g_l_jar T.F_l_jar.kp T.b_l_jar (ta_cons (te_var 0 (R := (RList K RInt)) (f := fun (s : Unit) => y.1)) ta_nil) (fun _ _ => rfl)
  (ts_for (Γh := fun s : Jar => [.im ((RList K RInt) y.1), .ow (OJar s), .any, .any, .any, .any, .any]) (fun (s : Jar) => s) (fun s => (.same (.same (.drop (.drop (.drop (.drop (.drop .nil)))))))) (ti_range1 T.z_range te_int) (pg_name (i := 2) sc_law.nd rfl (Or.inl rfl)) (tg_name 2)
  (fun q l_lap5 Kn6 => (ts_set (i := 3) (R := RInt) (ps_set sc_law.nd rfl (Or.inl rfl) (te_add te_int (te_callO 1 (fun (s : Jar) => s) (fun (s : Jar) t => t) (ok_l_draw T) (hr.mono (by decide)) T.g_l_draw T.F_l_draw.kp T.b_l_draw (ta_cons te_int ta_nil)))) (fun l_kinds22 =>
  (ts_set (i := 4) (R := (RLst RInt)) (ps_set sc_law.nd rfl (Or.inl rfl) (te_callO 1 (fun (s : Jar) => s) (fun (s : Jar) t => t) (ok_l_letters T) (hr.mono (by decide)) T.g_l_letters T.F_l_letters.kp T.b_l_letters (ta_cons (te_callO 1 (fun (s : Jar) => s) (fun (s : Jar) t => t) (ok_l_pick T) (hr.mono (by decide)) T.g_l_pick T.F_l_pick.kp T.b_l_pick (ta_cons (te_lst (tn_list (R := RInt) (tl_cons te_int (tl_cons te_int (tl_cons te_int (tl_cons te_int (tl_cons te_int (tl_cons te_int (tl_cons te_int (tl_cons te_int tl_nil)))))))))) ta_nil)) (ta_cons (te_var 3 (R := RInt) (f := fun (s : Jar) => l_kinds22)) ta_nil)))) (fun l_letters_here38 =>
  (ts_if (Γj := fun s : Jar × (List Int) => [.im ((RList K RInt) y.1), .ow (OJar s.1), .im (RInt l_lap5), .im (RInt l_kinds22), .im ((RLst RInt) s.2), .any, .any]) (tt_c (cr_eq flat_int) (te_callO 1 (fun (s : Jar) => s) (fun (s : Jar) t => t) (ok_l_draw T) (hr.mono (by decide)) T.g_l_draw T.F_l_draw.kp T.b_l_draw (ta_cons te_int ta_nil)) te_int)
  (fun Kn53 => (ts_set (i := 4) (R := (RLst RInt)) (ps_set sc_law.nd rfl (Or.inl rfl) (te_callO 1 (fun (s : Jar) => s) (fun (s : Jar) t => t) (ok_l_put_in T) (hr.mono (by decide)) T.g_l_put_in T.F_l_put_in.kp T.b_l_put_in (ta_cons (te_var 4 (R := (RLst RInt)) (f := fun (s : Jar) => l_letters_here38)) (ta_cons (te_add te_int (te_callO 1 (fun (s : Jar) => s) (fun (s : Jar) t => t) (ok_l_draw T) (hr.mono (by decide)) T.g_l_draw T.F_l_draw.kp T.b_l_draw (ta_cons te_int ta_nil))) (ta_cons (te_var 3 (R := RInt) (f := fun (s : Jar) => l_kinds22)) ta_nil))))) (fun l_letters_here55 =>
  (ts_end (Γj := fun s : Jar × (List Int) => [.im ((RList K RInt) y.1), .ow (OJar s.1), .im (RInt l_lap5), .im (RInt l_kinds22), .im ((RLst RInt) s.2), .any, .any]) (fun (s : Jar) => (s, l_letters_here55)) (fun s => (.same (.same (.same (.same (.same (.drop (.drop .nil))))))))))))
  (fun Kn54 => (ts_end (Γj := fun s : Jar × (List Int) => [.im ((RList K RInt) y.1), .ow (OJar s.1), .im (RInt l_lap5), .im (RInt l_kinds22), .im ((RLst RInt) s.2), .any, .any]) (fun (s : Jar) => (s, l_letters_here38)) (fun s => (.same (.same (.same (.same (.same (.drop (.drop .nil))))))))))
  (ts_if (Γj := fun s : Jar × (List Int) => [.im ((RList K RInt) y.1), .ow (OJar s.1), .im (RInt l_lap5), .im (RInt l_kinds22), .im ((RLst RInt) s.2), .any, .any]) (tt_c (cr_eq flat_int) (te_callO 1 (fun (s : Jar × (List Int)) => s.1) (fun (s : Jar × (List Int)) t => (t, s.2)) (ok_l_draw T) (hr.mono (by decide)) T.g_l_draw T.F_l_draw.kp T.b_l_draw (ta_cons te_int ta_nil)) te_int)
  (fun Kn62 => (ts_set (i := 5) (R := (RLst RInt)) (ps_set sc_law.nd rfl (Or.inl rfl) (te_callO 1 (fun (s : Jar × (List Int)) => s.1) (fun (s : Jar × (List Int)) t => (t, s.2)) (ok_l_letters T) (hr.mono (by decide)) T.g_l_letters T.F_l_letters.kp T.b_l_letters (ta_cons (te_add te_int (te_callO 1 (fun (s : Jar × (List Int)) => s.1) (fun (s : Jar × (List Int)) t => (t, s.2)) (ok_l_draw T) (hr.mono (by decide)) T.g_l_draw T.F_l_draw.kp T.b_l_draw (ta_cons te_int ta_nil))) (ta_cons (te_var 3 (R := RInt) (f := fun (s : Jar × (List Int)) => l_kinds22)) ta_nil)))) (fun l_ahead64 =>
  (ts_set (i := 4) (R := (RLst RInt)) (ps_set sc_law.nd rfl (Or.inl rfl) (te_lst (tn_cat (te_lst (tn_cat (te_var 5 (R := (RLst RInt)) (f := fun (s : Jar × (List Int)) => l_ahead64)) (te_var 4 (R := (RLst RInt)) (f := fun (s : Jar × (List Int)) => s.2)))) (te_call (ok_l_contrary T) (hr.mono (by decide)) T.g_l_contrary T.F_l_contrary.kp T.b_l_contrary (ta_cons (te_var 5 (R := (RLst RInt)) (f := fun (s : Jar × (List Int)) => l_ahead64)) ta_nil))))) (fun l_letters_here65 =>
  (ts_end (Γj := fun s : Jar × (List Int) => [.im ((RList K RInt) y.1), .ow (OJar s.1), .im (RInt l_lap5), .im (RInt l_kinds22), .im ((RLst RInt) s.2), .any, .any]) (fun (s : Jar × (List Int)) => (s.1, l_letters_here65)) (fun s => (.same (.same (.same (.same (.same (.drop (.drop .nil))))))))))))))
  (fun Kn63 => (ts_end (Γj := fun s : Jar × (List Int) => [.im ((RList K RInt) y.1), .ow (OJar s.1), .im (RInt l_lap5), .im (RInt l_kinds22), .im ((RLst RInt) s.2), .any, .any]) (fun (s : Jar × (List Int)) => (s.1, s.2)) (fun s => (.same (.same (.same (.same (.same (.drop (.drop .nil))))))))))
  (ts_set (i := 6) (R := (RLst RInt)) (ps_set sc_law.nd rfl (Or.inl rfl) (te_callO 1 (fun (s : Jar × (List Int)) => s.1) (fun (s : Jar × (List Int)) t => (t, s.2)) (ok_l_letters T) (hr.mono (by decide)) T.g_l_letters T.F_l_letters.kp T.b_l_letters (ta_cons (te_callO 1 (fun (s : Jar × (List Int)) => s.1) (fun (s : Jar × (List Int)) t => (t, s.2)) (ok_l_draw T) (hr.mono (by decide)) T.g_l_draw T.F_l_draw.kp T.b_l_draw (ta_cons te_int ta_nil)) (ta_cons (te_var 3 (R := RInt) (f := fun (s : Jar × (List Int)) => l_kinds22)) ta_nil)))) (fun l_others66 =>
  (ts_if (Γj := fun s : Jar × (List Int) × (List Int) => [.im ((RList K RInt) y.1), .ow (OJar s.1), .im (RInt l_lap5), .im (RInt l_kinds22), .im ((RLst RInt) s.2.1), .any, .im ((RLst RInt) s.2.2)]) (tt_c (cr_eq flat_int) (te_callO 1 (fun (s : Jar × (List Int)) => s.1) (fun (s : Jar × (List Int)) t => (t, s.2)) (ok_l_draw T) (hr.mono (by decide)) T.g_l_draw T.F_l_draw.kp T.b_l_draw (ta_cons te_int ta_nil)) te_int)
  (fun Kn68 => (ts_set (i := 6) (R := (RLst RInt)) (ps_set sc_law.nd rfl (Or.inl rfl) (te_lst (tn_cat (te_call (ok_l_contrary T) (hr.mono (by decide)) T.g_l_contrary T.F_l_contrary.kp T.b_l_contrary (ta_cons (te_lst (tn_cut (te_l (te_var 4 (R := (RLst RInt)) (f := fun (s : Jar × (List Int)) => s.2))) (to_some (te_toint (bp_int T.z_int) (te_fdiv (te_len (bp_len T.z_len) lens_list (te_l (te_var 4 (R := (RLst RInt)) (f := fun (s : Jar × (List Int)) => s.2)))) te_int))) to_none)) ta_nil)) (te_var 6 (R := (RLst RInt)) (f := fun (s : Jar × (List Int)) => l_others66))))) (fun l_others70 =>
  (ts_end (Γj := fun s : Jar × (List Int) × (List Int) => [.im ((RList K RInt) y.1), .ow (OJar s.1), .im (RInt l_lap5), .im (RInt l_kinds22), .im ((RLst RInt) s.2.1), .any, .im ((RLst RInt) s.2.2)]) (fun (s : Jar × (List Int)) => (s.1, s.2, l_others70)) (fun s => (.same (.same (.same (.same (.same (.drop (.same .nil))))))))))))
  (fun Kn69 => (ts_end (Γj := fun s : Jar × (List Int) × (List Int) => [.im ((RList K RInt) y.1), .ow (OJar s.1), .im (RInt l_lap5), .im (RInt l_kinds22), .im ((RLst RInt) s.2.1), .any, .im ((RLst RInt) s.2.2)]) (fun (s : Jar × (List Int)) => (s.1, s.2, l_others66)) (fun s => (.same (.same (.same (.same (.same (.drop (.same .nil))))))))))
  (ts_ifr (tt_w (tw_or (tt_not (tt_val (te_callO 1 (fun (s : Jar × (List Int) × (List Int)) => s.1) (fun (s : Jar × (List Int) × (List Int)) t => (t, s.2.1, s.2.2)) (ok_l_short_right T) (hr.mono (by decide)) T.g_l_short_right T.F_l_short_right.kp T.b_l_short_right (ta_cons (te_var 4 (R := (RLst RInt)) (f := fun (s : Jar × (List Int) × (List Int)) => s.2.1)) ta_nil)))) (tw_or (tt_not (tt_val (te_callO 1 (fun (s : Jar × (List Int) × (List Int)) => s.1) (fun (s : Jar × (List Int) × (List Int)) t => (t, s.2.1, s.2.2)) (ok_l_behind_right T) (hr.mono (by decide)) T.g_l_behind_right T.F_l_behind_right.kp T.b_l_behind_right (ta_cons (te_var 4 (R := (RLst RInt)) (f := fun (s : Jar × (List Int) × (List Int)) => s.2.1)) (ta_cons (te_var 6 (R := (RLst RInt)) (f := fun (s : Jar × (List Int) × (List Int)) => s.2.2)) ta_nil))))) (tw_or1 (tt_not (tt_val (te_callO 1 (fun (s : Jar × (List Int) × (List Int)) => s.1) (fun (s : Jar × (List Int) × (List Int)) t => (t, s.2.1, s.2.2)) (ok_l_core_right T) (hr.mono (by decide)) T.g_l_core_right T.F_l_core_right.kp T.b_l_core_right (ta_cons (te_var 4 (R := (RLst RInt)) (f := fun (s : Jar × (List Int) × (List Int)) => s.2.1)) ta_nil))))))))
  (ts_ret te_bl)
  (ts_end (Γj := fun s : Jar => [.im ((RList K RInt) y.1), .ow (OJar s), .any, .any, .any, .any, .any]) (fun (s : Jar × (List Int) × (List Int)) => s.1) (fun s => (.same (.same (.drop (.drop (.drop (.drop (.drop .nil))))))))))))))))))))
  (ts_ret (te_callO 1 (fun (s : Jar) => s) (fun (s : Jar) t => t) (ok_l_great_right T) (hr.mono (by decide)) T.g_l_great_right T.F_l_great_right.kp T.b_l_great_right ta_nil)) PassesOwn.never))) (by exact fun _ h => h)
end
end G
/-! words over letters: shortening, contrary, cores -/
namespace WM
def push (x : Int) : List Int → List Int
  | [] => [x]
  | y :: r => if x = -y then r else x :: y :: r
theorem push_cons (x y : Int) (r : List Int) : push x (y :: r) = if x = -y then r else x :: y :: r := rfl
def red (l : List Int) : List Int := l.foldr push []
def Rd : List Int → Prop
  | [] => True
  | [_] => True
  | x :: y :: r => x ≠ -y ∧ Rd (y :: r)
theorem rd_tail {x : Int} : ∀ {r : List Int}, Rd (x :: r) → Rd r
  | [], _ => trivial
  | _ :: _, h => h.2
theorem rd_push {x : Int} : ∀ {r : List Int}, Rd r → Rd (push x r)
  | [], _ => trivial
  | y :: r, h => by
    rw [push_cons]
    split
    · exact rd_tail h
    · rename_i n; exact ⟨n, h⟩
theorem rd_red : ∀ l : List Int, Rd (red l)
  | [] => trivial
  | x :: l => rd_push (rd_red l)
theorem push_of {x : Int} : ∀ {r : List Int}, Rd (x :: r) → push x r = x :: r
  | [], _ => rfl
  | y :: r, h => if_neg h.1
theorem red_of : ∀ {l : List Int}, Rd l → red l = l
  | [], _ => rfl
  | x :: l, h => by
    show push x (red l) = x :: l
    rw [red_of (rd_tail h), push_of h]
theorem red_red (l : List Int) : red (red l) = red l := red_of (rd_red l)
theorem push_push {x : Int} : ∀ {r : List Int}, Rd r → push x (push (-x) r) = r
  | [], _ => by
    show push x [-x] = []
    rw [push_cons, if_pos (by omega)]
  | y :: r, h => by
    by_cases e : -x = -y
    · have e1 : x = y := by omega
      subst e1
      have : push (-x) (x :: r) = r := if_pos rfl
      rw [this, push_of h]
    · have : push (-x) (y :: r) = -x :: y :: r := if_neg e
      rw [this]
      exact if_pos (by omega)
theorem red_append (a b : List Int) : red (a ++ b) = a.foldr push (red b) := by
  unfold red
  rw [List.foldr_append]
theorem red_cons (x : Int) (l : List Int) : red (x :: l) = push x (red l) := rfl
theorem red_cancel (a b : List Int) (x : Int) : red (a ++ x :: -x :: b) = red (a ++ b) := by
  rw [red_append, red_append, red_cons, red_cons, push_push (rd_red b)]
theorem red_app_red (a b : List Int) : red (a ++ red b) = red (a ++ b) := by
  rw [red_append, red_append, red_red]
theorem push_app (x : Int) : ∀ (r b : List Int), red (push x r ++ b) = push x (red (r ++ b))
  | [], b => rfl
  | y :: r, b => by
    by_cases e : x = -y
    · have e2 : push x (y :: r) = r := if_pos e
      have e3 : y = -x := by omega
      rw [e2]
      show _ = push x (push y (red (r ++ b)))
      rw [e3, push_push (rd_red _)]
    · have e2 : push x (y :: r) = x :: y :: r := if_neg e
      rw [e2]; rfl
theorem red_red_app : ∀ (a b : List Int), red (red a ++ b) = red (a ++ b)
  | [], b => rfl
  | x :: a, b => by
    show red (push x (red a) ++ b) = push x (red (a ++ b))
    rw [push_app, red_red_app a b]
theorem red_congr {b b' : List Int} (a c : List Int) (h : red b = red b') : red (a ++ b ++ c) = red (a ++ b' ++ c) := by
  rw [List.append_assoc, List.append_assoc, ← red_app_red a (b ++ c), ← red_app_red a (b' ++ c), ← red_red_app b, ← red_red_app b', h]
theorem red_congr2 {a a' b b' : List Int} (h : red a = red a') (h' : red b = red b') : red (a ++ b) = red (a' ++ b') := by
  rw [← red_red_app a, ← red_red_app a', ← red_app_red _ b, ← red_app_red _ b', h, h']
/-- the contrary word -/
def inv (l : List Int) : List Int := l.reverse.map fun x => -x
theorem inv_nil : inv [] = [] := rfl
theorem inv_cons (x : Int) (l : List Int) : inv (x :: l) = inv l ++ [-x] := by simp [inv]
theorem inv_app (a b : List Int) : inv (a ++ b) = inv b ++ inv a := by simp [inv]
theorem inv_inv (l : List Int) : inv (inv l) = l := by
  unfold inv
  rw [← List.map_reverse, List.reverse_reverse, List.map_map]
  have : ((fun x : Int => -x) ∘ fun x => -x) = id := by funext x; show - -x = x; omega
  rw [this, List.map_id]
theorem inv_len (l : List Int) : (inv l).length = l.length := by simp [inv]
theorem red_inv_right : ∀ (l b : List Int), red (l ++ (inv l ++ b)) = red b
  | [], b => rfl
  | x :: l, b => by
    rw [inv_cons]
    show push x (red (l ++ (inv l ++ [-x] ++ b))) = red b
    have : inv l ++ [-x] ++ b = inv l ++ (-x :: b) := by simp
    rw [this, red_inv_right l, red_cons, push_push (rd_red b)]
theorem red_inv_left (l b : List Int) : red (inv l ++ (l ++ b)) = red b := by
  have := red_inv_right (inv l) b
  rwa [inv_inv] at this
theorem rd_append : ∀ {a b : List Int}, Rd (a ++ b) ↔ Rd a ∧ Rd b ∧ ∀ x y, a.getLast? = some x → b.head? = some y → x ≠ -y
  | [], b => by simp [Rd]
  | [x], [] => by simp [Rd]
  | [x], y :: b => by
    show (x ≠ -y ∧ Rd (y :: b)) ↔ _
    simp [Rd]
    constructor
    · rintro ⟨h1, h2⟩; exact ⟨h2, h1⟩
    · rintro ⟨h1, h2⟩; exact ⟨h2, h1⟩
  | x :: z :: a, b => by
    have ih := rd_append (a := z :: a) (b := b)
    show (x ≠ -z ∧ Rd (z :: a ++ b)) ↔ _
    rw [ih]
    have e : (x :: z :: a).getLast? = (z :: a).getLast? := by simp [List.getLast?_cons_cons]
    rw [e]
    show _ ↔ (x ≠ -z ∧ Rd (z :: a)) ∧ _
    constructor
    · rintro ⟨h1, h2, h3, h4⟩; exact ⟨⟨h1, h2⟩, h3, h4⟩
    · rintro ⟨⟨h1, h2⟩, h3, h4⟩; exact ⟨h1, h2, h3, h4⟩
theorem rd_left {a b : List Int} (h : Rd (a ++ b)) : Rd a := (rd_append.mp h).1
theorem rd_right {a b : List Int} (h : Rd (a ++ b)) : Rd b := (rd_append.mp h).2.1
theorem inv_head (l : List Int) : (inv l).head? = l.getLast?.map fun x => -x := by
  unfold inv
  rw [List.head?_map, List.head?_reverse]
theorem inv_last (l : List Int) : (inv l).getLast? = l.head?.map fun x => -x := by
  unfold inv
  rw [List.getLast?_map, List.getLast?_reverse]
theorem rd_inv : ∀ {l : List Int}, Rd l → Rd (inv l)
  | [], _ => trivial
  | x :: l, h => by
    rw [inv_cons]
    refine rd_append.mpr ⟨rd_inv (rd_tail h), trivial, fun a b ha hb => ?_⟩
    rw [inv_last] at ha
    simp at hb
    subst hb
    cases l with
    | nil => simp at ha
    | cons y l =>
      simp at ha
      subst ha
      have := h.1
      omega
theorem red_inv_push (x : Int) : ∀ {r : List Int}, Rd r → red (inv (x :: r)) = inv (push x r)
  | [], _ => rfl
  | y :: r, h => by
    by_cases e : x = -y
    · have e2 : push x (y :: r) = r := if_pos e
      rw [e2, inv_cons, inv_cons]
      have e3 : inv r ++ [-y] ++ [-x] = inv r ++ (-y :: -(-y) :: []) := by rw [e]; simp
      rw [e3, red_cancel, List.append_nil]
      exact red_of (rd_inv (rd_tail h))
    · have e2 : push x (y :: r) = x :: y :: r := if_neg e
      rw [e2]
      exact red_of (rd_inv ⟨e, h⟩)
theorem red_inv : ∀ l : List Int, red (inv l) = inv (red l)
  | [] => rfl
  | x :: l => by
    rw [inv_cons, ← red_red_app, red_inv l, ← inv_cons, red_inv_push x (rd_red l)]
    rfl
theorem red_mem : ∀ {l : List Int} {x : Int}, x ∈ red l → x ∈ l
  | y :: l, x, h => by
    have h : x ∈ push y (red l) := h
    cases e : red l with
    | nil =>
      rw [e] at h
      simp [push] at h
      subst h; exact List.mem_cons_self
    | cons z r =>
      rw [e, push_cons] at h
      split at h
      · exact List.mem_cons_of_mem _ (red_mem (by rw [e]; exact List.mem_cons_of_mem _ h))
      · rcases List.mem_cons.mp h with h | h
        · subst h; exact List.mem_cons_self
        · exact List.mem_cons_of_mem _ (red_mem (by rw [e]; exact h))
theorem push_len (x : Int) : ∀ r : List Int, (push x r).length ≤ r.length + 1
  | [] => Nat.le_refl _
  | y :: r => by
    rw [push_cons]
    split
    · simp; omega
    · simp
theorem red_len : ∀ l : List Int, (red l).length ≤ l.length
  | [] => Nat.le_refl _
  | x :: l => by
    have := push_len x (red l)
    have := red_len l
    show (push x (red l)).length ≤ l.length + 1
    omega
/-! powers -/
def rep (n : Nat) (l : List Int) : List Int := (List.replicate n l).flatten
theorem rep_zero (l : List Int) : rep 0 l = [] := rfl
theorem rep_succ (n : Nat) (l : List Int) : rep (n + 1) l = l ++ rep n l := by simp [rep, List.replicate_succ]
theorem rep_nil : ∀ n, rep n [] = []
  | 0 => rfl
  | n + 1 => by rw [rep_succ, rep_nil n]; rfl
theorem rep_len : ∀ n (l : List Int), (rep n l).length = n * l.length
  | 0, l => by simp [rep]
  | n + 1, l => by rw [rep_succ, List.length_append, rep_len n l, Nat.succ_mul, Nat.add_comm]
theorem red_rep {l l' : List Int} (h : red l = red l') : ∀ n, red (rep n l) = red (rep n l')
  | 0 => rfl
  | n + 1 => by rw [rep_succ, rep_succ]; exact red_congr2 h (red_rep h n)
theorem red_rep_conj (p b : List Int) : ∀ n, red (rep n (p ++ b ++ inv p)) = red (p ++ rep n b ++ inv p)
  | 0 => by
    have := red_inv_right p []
    rw [List.append_nil] at this
    show red [] = red (p ++ [] ++ inv p)
    rw [List.append_nil, this]
  | n + 1 => by
    rw [rep_succ, rep_succ, ← red_app_red, red_rep_conj p b n, red_app_red]
    have e : p ++ b ++ inv p ++ (p ++ rep n b ++ inv p) = (p ++ b) ++ (inv p ++ (p ++ (rep n b ++ inv p))) := by simp
    rw [e, ← red_app_red, red_inv_left, red_app_red]
    simp
end WM
namespace WM
/-- no letter at the front meets its contrary at the end -/
def Cyc (b : List Int) : Prop := ∀ x y, 1 < b.length → b.head? = some x → b.getLast? = some y → x ≠ -y
def coreF : Nat → List Int → List Int
  | 0, l => l
  | n + 1, l => if 1 < l.length ∧ l.head? = l.getLast?.map (fun x => -x) then coreF n l.tail.dropLast else l
def core (l : List Int) : List Int := coreF l.length l
theorem ends_of {l : List Int} (h : 1 < l.length) : ∃ x m y, l = x :: (m ++ [y]) := by
  cases l with
  | nil => simp at h
  | cons x r =>
    refine ⟨x, r.dropLast, r.getLast (by intro z; subst z; simp at h), ?_⟩
    rw [List.dropLast_concat_getLast]
theorem head_ends (x y : Int) (m : List Int) : (x :: (m ++ [y])).head? = some x := rfl
theorem last_ends (x y : Int) (m : List Int) : (x :: (m ++ [y])).getLast? = some y := by
  rw [← List.cons_append, List.getLast?_append]; rfl
theorem mid_ends (x y : Int) (m : List Int) : (x :: (m ++ [y])).tail.dropLast = m := by simp
theorem coreF_spec : ∀ (n : Nat) (l : List Int), l.length ≤ n → ∃ p, l = p ++ coreF n l ++ inv p ∧ Cyc (coreF n l)
  | 0, l, h => by
    have : l = [] := List.eq_nil_of_length_eq_zero (by omega)
    subst this
    exact ⟨[], rfl, fun x y h => by simp [coreF] at h⟩
  | n + 1, l, h => by
    by_cases c : 1 < l.length ∧ l.head? = l.getLast?.map (fun x => -x)
    · have e : coreF (n + 1) l = coreF n l.tail.dropLast := if_pos c
      obtain ⟨x, m, y, rfl⟩ := ends_of c.1
      have c2 := c.2
      rw [head_ends, last_ends] at c2
      simp at c2
      rw [e, mid_ends]
      obtain ⟨p, h1, h2⟩ := coreF_spec n m (by simp at h; omega)
      refine ⟨x :: p, ?_, h2⟩
      rw [inv_cons]
      have : x :: p ++ coreF n m ++ (inv p ++ [-x]) = x :: ((p ++ coreF n m ++ inv p) ++ [-x]) := by simp
      rw [this, ← h1, c2]
      simp
    · have e : coreF (n + 1) l = l := if_neg c
      rw [e]
      refine ⟨[], by simp [inv], fun x y h1 h2 h3 q => c ⟨h1, ?_⟩⟩
      rw [h2, h3, q]; rfl
theorem core_spec (l : List Int) : ∃ p, l = p ++ core l ++ inv p ∧ Cyc (core l) := coreF_spec _ l (Nat.le_refl _)
theorem core_uniq : ∀ {p p' b b' : List Int}, p ++ b ++ inv p = p' ++ b' ++ inv p' → Cyc b → Cyc b' → b = b' ∧ p = p'
  | [], [], b, b', h, _, _ => by simpa [inv] using h
  | [], x :: p, b, b', h, hb, _ => by
    exfalso
    rw [inv_cons] at h
    have e : b = x :: ((p ++ b' ++ inv p) ++ [-x]) := by
      simp [inv_nil] at h
      rw [h]; simp
    subst e
    refine hb x (-x) (by simp; omega) rfl (last_ends _ _ _) (by omega)
  | x :: p, [], b, b', h, _, hb => by
    exfalso
    rw [inv_cons] at h
    have e : b' = x :: ((p ++ b ++ inv p) ++ [-x]) := by
      simp [inv_nil] at h
      rw [← h]; simp
    subst e
    refine hb x (-x) (by simp; omega) rfl (last_ends _ _ _) (by omega)
  | x :: p, y :: p', b, b', h, h1, h2 => by
    rw [inv_cons, inv_cons] at h
    have h : x :: ((p ++ b ++ inv p) ++ [-x]) = y :: ((p' ++ b' ++ inv p') ++ [-y]) := by
      have e1 : x :: p ++ b ++ (inv p ++ [-x]) = x :: ((p ++ b ++ inv p) ++ [-x]) := by simp
      have e2 : y :: p' ++ b' ++ (inv p' ++ [-y]) = y :: ((p' ++ b' ++ inv p') ++ [-y]) := by simp
      rw [← e1, ← e2, h]
    injection h with hx h
    have h := (List.append_inj' h rfl).1
    obtain ⟨r1, r2⟩ := core_uniq h h1 h2
    exact ⟨r1, by rw [hx, r2]⟩
theorem core_is {l p b : List Int} (h : l = p ++ b ++ inv p) (hb : Cyc b) : core l = b := by
  obtain ⟨q, h1, h2⟩ := core_spec l
  have := (core_uniq (h1.symm.trans h) h2 hb).1
  exact this
theorem core_of {b : List Int} (hb : Cyc b) : core b = b := core_is (p := []) (by simp [inv]) hb
theorem cyc_core (l : List Int) : Cyc (core l) := (core_spec l).choose_spec.2
theorem core_core (l : List Int) : core (core l) = core l := core_of (cyc_core l)
theorem cyc_nil : Cyc [] := fun x y h => by simp at h
theorem core_nil : core [] = [] := core_of cyc_nil
theorem rd_core {l : List Int} (h : Rd l) : Rd (core l) := by
  obtain ⟨p, h1, _⟩ := core_spec l
  rw [h1] at h
  exact rd_right (rd_left h)
theorem core_mem {l : List Int} {x : Int} (h : x ∈ core l) : x ∈ l := by
  obtain ⟨p, h1, _⟩ := core_spec l
  rw [h1]
  simp [h]
theorem core_len (l : List Int) : ∃ k, l.length = 2 * k + (core l).length := by
  obtain ⟨p, h1, _⟩ := core_spec l
  refine ⟨p.length, ?_⟩
  have := congrArg List.length h1
  simp [inv_len] at this
  omega
/-! turned -/
def Rot (b m : List Int) : Prop := ∃ u v, b = u ++ v ∧ m = v ++ u
theorem Rot.refl (b : List Int) : Rot b b := ⟨[], b, rfl, by simp⟩
theorem Rot.trans {a b c : List Int} (h1 : Rot a b) (h2 : Rot b c) : Rot a c := by
  obtain ⟨u, v, rfl, rfl⟩ := h1
  obtain ⟨u', v', h3, rfl⟩ := h2
  rcases List.append_eq_append_iff.mp h3 with ⟨t, e1, e2⟩ | ⟨t, e1, e2⟩
  · subst e1; subst e2
    exact ⟨t, v' ++ v, by simp, by simp⟩
  · subst e1; subst e2
    exact ⟨u ++ u', t, by simp, by simp⟩
theorem rot1 {w : List Int} (x : Int) (hw : Rd w) : Rot (core w) (core (red (x :: (w ++ [-x])))) := by
  obtain ⟨p, h1, h2⟩ := core_spec w
  generalize core w = b at h1 h2
  cases p with
  | cons y p =>
    have e0 : w = y :: ((p ++ b ++ inv p) ++ [-y]) := by rw [h1, inv_cons]; simp
    have hm : Rd (p ++ b ++ inv p) := by
      rw [e0] at hw
      exact rd_left (rd_tail hw)
    by_cases e : x = -y
    · have ey : y = -x := by omega
      have e3 : red (x :: (w ++ [-x])) = p ++ b ++ inv p := by
        rw [e0, ey]
        have : x :: (-x :: (p ++ b ++ inv p ++ [- -x]) ++ [-x]) = [] ++ x :: -x :: ((p ++ b ++ inv p) ++ x :: -x :: []) := by simp
        rw [this, red_cancel, List.nil_append, red_cancel, List.append_nil, red_of hm]
      rw [e3, core_is rfl h2]
      exact Rot.refl _
    · have hr : Rd (x :: (w ++ [-x])) := by
        rw [← List.cons_append]
        refine rd_append.mpr ⟨by rw [e0] at hw ⊢; exact ⟨e, hw⟩, trivial, fun a c ha hc => ?_⟩
        simp at hc
        subst hc
        rw [e0] at ha
        have : (x :: y :: (p ++ b ++ inv p ++ [-y])).getLast? = some (-y) := by
          rw [List.getLast?_cons_cons, last_ends]
        rw [this] at ha
        simp at ha
        omega
      rw [red_of hr, core_is (p := x :: y :: p) (b := b) (by rw [inv_cons, h1]; simp) h2]
      exact Rot.refl _
  | nil =>
    have e0 : w = b := by simpa [inv] using h1
    subst e0
    cases w with
    | nil =>
      have : red (x :: ([] ++ [-x])) = [] := red_cancel [] [] x
      rw [this, core_nil]
      exact Rot.refl _
    | cons y r =>
      by_cases e : x = -y
      · have ey : -x = y := by omega
        have e3 : red (x :: (y :: r ++ [-x])) = red (r ++ [y]) := by
          rw [ey]
          have e5 : x :: (y :: r ++ [y]) = [] ++ x :: -x :: (r ++ [y]) := by rw [ey]; simp
          rw [e5, red_cancel, List.nil_append]
        have hr : Rd (r ++ [y]) := by
          refine rd_append.mpr ⟨rd_tail hw, trivial, fun a c ha hc => ?_⟩
          simp at hc
          subst hc
          cases r with
          | nil => simp at ha
          | cons z r =>
            have := h2 y a (by simp) rfl (by rw [List.getLast?_cons_cons]; exact ha)
            omega
        have hc : Cyc (r ++ [y]) := fun a c hl ha hc => by
          cases r with
          | nil => simp at hl
          | cons z r =>
            simp at ha
            subst ha
            rw [List.cons_append, last_ends] at hc
            simp at hc
            subst hc
            have := hw.1
            omega
        rw [e3, red_of hr, core_of hc]
        exact ⟨[y], r, rfl, rfl⟩
      · by_cases el : (y :: r).getLast? = some x
        · obtain ⟨s, es⟩ : ∃ s, y :: r = s ++ [x] := by
            refine ⟨(y :: r).dropLast, ?_⟩
            have h5 : (y :: r).getLast (by simp) = x := by
              rw [List.getLast?_eq_some_getLast (by simp)] at el
              exact Option.some.inj el
            rw [← h5, List.dropLast_concat_getLast]
          have e3 : red (x :: (y :: r ++ [-x])) = red (x :: s) := by
            rw [es]
            have : x :: (s ++ [x] ++ [-x]) = (x :: s) ++ x :: -x :: [] := by simp
            rw [this, red_cancel, List.append_nil]
          have hr : Rd (x :: s) := by
            cases s with
            | nil => trivial
            | cons z s =>
              have ez : y = z := by simp at es; exact es.1
              subst ez
              refine ⟨e, ?_⟩
              rw [es] at hw
              exact rd_left hw
          have hc : Cyc (x :: s) := fun a c hl ha hc => by
            simp at ha
            subst ha
            cases s with
            | nil => simp at hl
            | cons z s =>
              rw [List.getLast?_cons_cons] at hc
              rw [es] at hw
              have := (rd_append.mp hw).2.2 c x hc rfl
              omega
          rw [e3, red_of hr, core_of hc, es]
          exact ⟨s, [x], rfl, rfl⟩
        · have hr : Rd (x :: (y :: r ++ [-x])) := by
            rw [← List.cons_append]
            refine rd_append.mpr ⟨⟨e, hw⟩, trivial, fun a c ha hc => ?_⟩
            simp at hc
            subst hc
            rw [List.getLast?_cons_cons] at ha
            intro q
            have : a = x := by omega
            subst this
            exact el ha
          rw [red_of hr, core_is (p := [x]) (b := y :: r) (by rw [inv_cons]; simp [inv]) h2]
          exact Rot.refl _
theorem core_conj : ∀ (o w : List Int), Rot (core (red w)) (core (red (o ++ w ++ inv o)))
  | [], w => by rw [inv_nil, List.append_nil, List.nil_append]; exact Rot.refl _
  | x :: o, w => by
    have e : red (x :: o ++ w ++ inv (x :: o)) = red (x :: (red (o ++ w ++ inv o) ++ [-x])) := by
      have e1 : x :: o ++ w ++ inv (x :: o) = [x] ++ (o ++ w ++ inv o) ++ [-x] := by rw [inv_cons]; simp
      have e2 : x :: (red (o ++ w ++ inv o) ++ [-x]) = [x] ++ red (o ++ w ++ inv o) ++ [-x] := by simp
      rw [e1, e2]
      exact red_congr _ _ (red_red _).symm
    rw [e]
    exact (core_conj o w).trans (rot1 x (rd_red _))
theorem rep_head {b : List Int} (n : Nat) : (rep (n + 1) b).head? = b.head? := by
  rw [rep_succ]
  cases b with
  | nil => rw [rep_nil]; rfl
  | cons x b => rfl
theorem rd_rep {b : List Int} (h : Rd b) (hc : Cyc b) (h0 : ∀ x ∈ b, x ≠ 0) : ∀ n, Rd (rep n b)
  | 0 => trivial
  | n + 1 => by
    rw [rep_succ]
    refine rd_append.mpr ⟨h, rd_rep h hc h0 n, fun x y hx hy => ?_⟩
    cases n with
    | zero => simp [rep] at hy
    | succ n =>
      rw [rep_head] at hy
      cases b with
      | nil => simp at hx
      | cons z b =>
        simp at hy
        subst hy
        cases b with
        | nil =>
          simp at hx
          subst hx
          have := h0 z (by simp)
          omega
        | cons v b =>
          have := hc z x (by simp) rfl hx
          omega
theorem rep_last {b : List Int} : ∀ (n : Nat), (rep (n + 1) b).getLast? = b.getLast?
  | 0 => by simp [rep]
  | n + 1 => by
    rw [rep_succ, List.getLast?_append, rep_last n]
    cases b with
    | nil => rfl
    | cons x b => simp
theorem rd_power {p b : List Int} (hr : Rd (p ++ b ++ inv p)) (hc : Cyc b) (h0 : ∀ x ∈ b, x ≠ 0) (hb : b ≠ []) (n : Nat) : Rd (p ++ rep (n + 1) b ++ inv p) := by
  have h1 := rd_append.mp hr
  have h2 := rd_append.mp h1.1
  have hn : rep (n + 1) b ≠ [] := by
    rw [rep_succ]; intro z
    exact hb (List.append_eq_nil_iff.mp z).1
  refine rd_append.mpr ⟨rd_append.mpr ⟨h2.1, rd_rep h2.2.1 hc h0 _, fun x y hx hy => ?_⟩, h1.2.1, fun x y hx hy => ?_⟩
  · rw [rep_head] at hy
    exact h2.2.2 x y hx hy
  · refine h1.2.2 x y ?_ hy
    rw [List.getLast?_append] at hx ⊢
    rw [rep_last] at hx
    exact hx
/-- the shortened power -/
theorem red_power {l : List Int} (h0 : ∀ x ∈ l, x ≠ 0) (n : Nat) : ∃ p, red l = p ++ core (red l) ++ inv p ∧ red (rep (n + 1) l) = p ++ rep (n + 1) (core (red l)) ++ inv p := by
  obtain ⟨p, h1, h2⟩ := core_spec (red l)
  refine ⟨p, h1, ?_⟩
  have h3 : red (rep (n + 1) l) = red (rep (n + 1) (p ++ core (red l) ++ inv p)) := red_rep (by rw [← h1, red_red]) _
  rw [h3, red_rep_conj]
  by_cases hb : core (red l) = []
  · rw [hb] at h1 ⊢
    rw [rep_nil]
    have : red l = [] := by
      have e : red (red l) = [] := by
        rw [h1]
        have := red_inv_right p []
        rw [List.append_nil] at this
        rw [List.append_nil, this]; rfl
      rwa [red_red] at e
    rw [← h1, this]; rfl
  · exact red_of (rd_power (by rw [← h1]; exact rd_red l) h2 (fun x hx => h0 x (red_mem (core_mem hx))) hb n)
end WM
namespace WM
open TL L2
section
variable {α β S : Type}
theorem mFor_inv {f : α → S → (S → Prop) → Prop} (I : List α → S → Prop) : ∀ {xs : List α} {s : S} {K : S → Prop}, I xs s → (∀ x r s (K : S → Prop), I (x :: r) s → (∀ s', I r s' → K s') → f x s K) → (∀ s, I [] s → K s) → mFor xs f s K
  | [], s, K, h, _, hk => hk s h
  | x :: r, s, K, h, hs, hk => hs x r s _ h fun s' h' => mFor_inv I h' hs hk
/-- .. by the items' number -/
theorem mFor_n {f : α → S → (S → Prop) → Prop} (I : Nat → S → Prop) {xs : List α} {s : S} {K : S → Prop} (h0 : I 0 s) (hs : ∀ n x s (K : S → Prop), n < xs.length → x ∈ xs → I n s → (∀ s', I (n + 1) s' → K s') → f x s K) (hk : ∀ s, I xs.length s → K s) : mFor xs f s K := by
  refine mFor_inv (fun r s => r.length ≤ xs.length ∧ (∀ x ∈ r, x ∈ xs) ∧ I (xs.length - r.length) s) ⟨Nat.le_refl _, fun _ h => h, by rw [Nat.sub_self]; exact h0⟩ (fun x r s K ⟨h1, h2, h3⟩ hk => ?_) (fun s ⟨_, _, h⟩ => hk s h)
  simp at h1
  refine hs _ x s K (by simp; omega) (h2 x List.mem_cons_self) h3 fun s' h' => hk s' ⟨by omega, fun y hy => h2 y (List.mem_cons_of_mem _ hy), ?_⟩
  have : xs.length - (x :: r).length + 1 = xs.length - r.length := by simp; omega
  rw [← this]; exact h'
/-- .. the turn told as what the mirror asks -/
theorem mWhile_of {t : S → (Bool → S → Prop) → Prop} {f : S → (S → Prop) → Prop} (I : S → Prop) (μ : S → Nat) {s : S} {K : S → Prop} (h0 : I s) (h : ∀ s (N : S → Prop), I s → (∀ s2, I s2 → μ s2 < μ s → N s2) → t s fun b s1 => if b = true then f s1 N else K s1) : mWhile t f s K :=
  ⟨fun n s => I s ∧ μ s = n, ⟨_, h0, rfl⟩, fun n s ⟨h1, h2⟩ => h s _ h1 fun s2 q1 q2 => ⟨μ s2, by omega, q1, rfl⟩⟩
theorem mMap_det {f : α → (β → Prop) → Prop} (g : α → β) : ∀ {xs : List α} {K : List β → Prop}, (∀ x ∈ xs, ∀ K : β → Prop, K (g x) → f x K) → K (xs.map g) → mMap xs f K
  | [], K, _, h => h
  | x :: xs, K, hf, h => hf x List.mem_cons_self _ (mMap_det g (fun y hy => hf y (List.mem_cons_of_mem _ hy)) h)
theorem mMapIf_det {t : α → (Bool → Prop) → Prop} {f : α → (β → Prop) → Prop} (p : α → Bool) (g : α → β) : ∀ {xs : List α} {K : List β → Prop}, (∀ x ∈ xs, ∀ K : Bool → Prop, K (p x) → t x K) → (∀ x ∈ xs, p x = true → ∀ K : β → Prop, K (g x) → f x K) → K ((xs.filter p).map g) → mMapIf xs t f K
  | [], K, _, _, h => h
  | x :: xs, K, ht, hf, h => by
    refine ht x List.mem_cons_self _ ?_
    by_cases e : p x = true
    · rw [if_pos e]
      refine hf x List.mem_cons_self e _ (mMapIf_det p g (fun y hy => ht y (List.mem_cons_of_mem _ hy)) (fun y hy => hf y (List.mem_cons_of_mem _ hy)) ?_)
      rw [List.filter_cons_of_pos e] at h
      exact h
    · rw [if_neg e]
      refine mMapIf_det p g (fun y hy => ht y (List.mem_cons_of_mem _ hy)) (fun y hy => hf y (List.mem_cons_of_mem _ hy)) ?_
      rw [List.filter_cons_of_neg e] at h
      exact h
theorem rangeL_mem {lo hi i : Int} : i ∈ rangeL lo hi ↔ lo ≤ i ∧ i < hi := by
  unfold rangeL
  simp only [List.mem_map, List.mem_range]
  constructor
  · rintro ⟨n, h, rfl⟩; omega
  · rintro ⟨h1, h2⟩; exact ⟨(i - lo).toNat, by omega, by omega⟩
theorem mIf_of {b : Bool} {f g : (S → Prop) → Prop} {k : S → Prop} (P : S → Prop) (h1 : b = true → ∀ K : S → Prop, (∀ s, P s → K s) → f K) (h2 : b = false → ∀ K : S → Prop, (∀ s, P s → K s) → g K) (hk : ∀ s, P s → k s) : mIf b f g k := by
  unfold mIf
  cases b with
  | true => exact h1 rfl _ hk
  | false => exact h2 rfl _ hk
/-! places -/
theorem pyAt_nat {xs : List α} {i : Int} (h0 : 0 ≤ i) (h1 : i < xs.length) : pyAt xs i = xs[i.toNat]? := by
  unfold pyAt atI ixN
  rw [if_pos h0, if_pos h1]; rfl
theorem pyAt_get {xs : List α} {i : Int} (h0 : 0 ≤ i) (h1 : i < xs.length) : ∃ y, pyAt xs i = some y ∧ xs[i.toNat]? = some y := by
  rw [pyAt_nat h0 h1]
  exact ⟨xs[i.toNat]'(by omega), List.getElem?_eq_getElem (by omega), List.getElem?_eq_getElem (by omega)⟩
theorem pyAt_last {xs : List α} : pyAt xs (-(1 : Int)) = xs.getLast? := by
  unfold pyAt atI ixN
  rw [if_neg (by omega), List.getLast?_eq_getElem?]
  cases xs with
  | nil => rfl
  | cons x xs =>
    rw [if_pos (by simp; omega)]
    show (x :: xs)[((-(1:Int)) + ((x :: xs).length : Int)).toNat]? = _
    congr 1
    simp
    omega
theorem pyAt_zero {xs : List α} : pyAt xs 0 = xs.head? := by
  cases xs with
  | nil => rfl
  | cons x xs => rw [pyAt_nat (by omega) (by simp)]; rfl
theorem pyCut_take {xs : List α} {i : Int} (h0 : 0 ≤ i) : pyCut xs none (some i) = xs.take i.toNat := by
  unfold pyCut
  rw [HT.sIx_none]
  have : HT.sIx xs.length xs.length (some i) = min i.toNat xs.length := by
    have := HT.sIx_nat xs.length xs.length i.toNat
    rwa [Int.toNat_of_nonneg h0] at this
  rw [this, List.drop_zero, Nat.sub_zero]
  by_cases h : i.toNat ≤ xs.length
  · rw [Nat.min_eq_left h]
  · rw [Nat.min_eq_right (by omega), List.take_of_length_le (Nat.le_refl _), List.take_of_length_le (by omega)]
theorem pyCut_drop {xs : List α} {i : Int} (h0 : 0 ≤ i) : pyCut xs (some i) none = xs.drop i.toNat := by
  unfold pyCut
  rw [HT.sIx_none]
  have : HT.sIx xs.length 0 (some i) = min i.toNat xs.length := by
    have := HT.sIx_nat xs.length 0 i.toNat
    rwa [Int.toNat_of_nonneg h0] at this
  rw [this]
  by_cases h : i.toNat ≤ xs.length
  · rw [Nat.min_eq_left h, List.take_of_length_le (by simp)]
  · rw [Nat.min_eq_right (by omega), Nat.sub_self, List.take_zero]
    exact (List.drop_of_length_le (by omega)).symm
theorem pyCut_mid {xs : List α} {i j : Int} (h0 : 0 ≤ i) (h1 : i ≤ j) (h2 : j ≤ xs.length) : pyCut xs (some i) (some j) = (xs.drop i.toNat).take (j.toNat - i.toNat) := by
  unfold pyCut
  have e1 : HT.sIx xs.length 0 (some i) = min i.toNat xs.length := by
    have := HT.sIx_nat xs.length 0 i.toNat
    rwa [Int.toNat_of_nonneg h0] at this
  have e2 : HT.sIx xs.length xs.length (some j) = min j.toNat xs.length := by
    have := HT.sIx_nat xs.length xs.length j.toNat
    rwa [Int.toNat_of_nonneg (by omega)] at this
  rw [e1, e2, Nat.min_eq_left (by omega), Nat.min_eq_left (by omega)]
/-- l[1:-1] -/
theorem pyCut_ends {xs : List α} (h : 1 < xs.length) : pyCut xs (some (1 : Int)) (some (-(1 : Int))) = xs.tail.dropLast := by
  unfold pyCut
  have e1 : HT.sIx xs.length 0 (some (1 : Int)) = 1 := by
    have := HT.sIx_nat xs.length 0 1
    rw [Nat.min_eq_left (by omega)] at this
    exact this
  have e2 : HT.sIx xs.length xs.length (some (-(1 : Int))) = xs.length - 1 := by
    show (if (-(1 : Int)) < 0 then (-(1 : Int) + (xs.length : Int)).toNat else min (-(1 : Int)).toNat xs.length) = _
    rw [if_pos (by omega)]
    omega
  rw [e1, e2, List.drop_one, List.dropLast_eq_take, List.length_tail]
end
/-! the jar -/
def JOk (n : Nat) (t : Jar) : Prop := 0 ≤ t.2.1 ∧ t.2.1 ≤ n
theorem JOk.mono {n m : Nat} {t : Jar} (h : JOk n t) (hm : n ≤ m) : JOk m t := ⟨h.1, by have := h.2; omega⟩
end WM
namespace G
open PySem L2 TL WM
theorem big3 {m a c1 c2 c3 : Int} (h1 : 0 ≤ m) (h2 : m < 2 ^ 31) (h3 : 0 ≤ a) (h4 : a ≤ 2 ^ 20) (hc1 : 0 ≤ c1 ∧ c1 ≤ 2 ^ 17) (hc2 : 0 ≤ c2 ∧ c2 ≤ 2 ^ 17) (hc3 : 0 ≤ c3 ∧ c3 ≤ 2 ^ 17) : (m * (2 * a + c1) + c2 * a * a + c3).natAbs < 2 ^ 64 := by
  have e1 : m * (2 * a + c1) ≤ 2 ^ 31 * (2 * 2 ^ 20 + 2 ^ 17) := Int.mul_le_mul (by omega) (by omega) (by omega) (by omega)
  have e2 : 0 ≤ m * (2 * a + c1) := Int.mul_nonneg h1 (by omega)
  have e3 : c2 * a ≤ 2 ^ 17 * 2 ^ 20 := Int.mul_le_mul (by omega) (by omega) (by omega) (by omega)
  have e4 : 0 ≤ c2 * a := Int.mul_nonneg (by omega) (by omega)
  have e5 : c2 * a * a ≤ 2 ^ 17 * 2 ^ 20 * 2 ^ 20 := Int.mul_le_mul e3 (by omega) (by omega) (by omega)
  have e6 : 0 ≤ c2 * a * a := Int.mul_nonneg e4 (by omega)
  omega
theorem draw_ok {many : Int} {t : Jar} {n : Nat} {Kf : Int → Jar → Prop} (h0 : 0 < many) (h1 : many < 1073741824) (hn : n < 1048576) (J : JOk n t) (k : ∀ x t', 0 ≤ x → x < many → JOk (n + 1) t' → Kf x t') : m_l_draw many t Kf := by
  obtain ⟨cells, a, rest⟩ := t
  have ha : 0 ≤ a := J.1
  have hb : a ≤ n := J.2
  have nz : many ≠ 0 := by omega
  have f0 : ∀ x : Int, 0 ≤ x.fmod many := fun x => Int.fmod_nonneg_of_pos x h0
  have f1 : ∀ x : Int, x.fmod many < many := fun x => Int.fmod_lt_of_pos x h0
  have dv : ∀ x : Int, CDivN x many := fun x => ⟨nz, by omega⟩
  have fm : ∀ (x m : Int), 0 < m → 0 ≤ x.fmod m ∧ x.fmod m < m := fun x m hm => ⟨Int.fmod_nonneg_of_pos x hm, Int.fmod_lt_of_pos x hm⟩
  unfold m_l_draw
  dsimp only [mB]
  split
  · exact ⟨dv _, nz, k _ _ (f0 _) (f1 _) ⟨ha, by show a ≤ ((n + 1 : Nat) : Int); omega⟩⟩
  · refine ⟨.inl ⟨by omega, by omega⟩, by simp, ?_⟩
    have go : ∀ cell : Int, (fun (s17 : Jar × Int) =>
  (fun (K19 : Bool → Jar × Int → Prop) => (if (decide (a < (s17.1.1.length : Int))) = true then (CPow (10 : Int) (18 : Int) ∧ K19 (decide (((10 : Int) ^ (18 : Int).toNat) ≤ (s17.2.natAbs : Int))) (s17.1, s17.2)) else K19 false (s17.1, s17.2))) (fun b20 s21 => (if b20 = true then (CPow (10 : Int) (18 : Int) ∧ (CMul (2 : Int) ((s21.2.natAbs : Int) - ((10 : Int) ^ (18 : Int).toNat)) ∧ (fun (l_rest14 : Int) => (CDivN l_rest14 many ∧ (many ≠ 0 ∧ Kf (l_rest14.fmod many) (s21.1.1, s21.1.2.1, (l_rest14.fdiv many))))) (((2 : Int) * ((s21.2.natAbs : Int) - ((10 : Int) ^ (18 : Int).toNat))) + (if (decide (s21.2 < (0 : Int))) then 1 else 0)))) else
  ((2147483587 : Int) ≠ 0 ∧ (CMul (33311 : Int) a ∧ (CPow (((s21.2.fmod (2147483587 : Int)) + ((33311 : Int) * a)) + (6029 : Int)) (5 : Int) ∧ ((2147483629 : Int) ≠ 0 ∧ (fun (l_mixed15 : Int) => (CMul (2 : Int) a ∧ (CMul l_mixed15 (((2 : Int) * a) + (1823 : Int)) ∧ (CMul (51131 : Int) a ∧ (CMul ((51131 : Int) * a) a ∧ (CPow (((l_mixed15 * (((2 : Int) * a) + (1823 : Int))) + (((51131 : Int) * a) * a)) + (44119 : Int)) (3 : Int) ∧ ((2147483549 : Int) ≠ 0 ∧ (fun (l_mixed16 : Int) => (CDivN l_mixed16 (64 : Int) ∧ (many ≠ 0 ∧ Kf ((l_mixed16.fdiv (64 : Int)).fmod many) s21.1))) (((((l_mixed15 * (((2 : Int) * a) + (1823 : Int))) + (((51131 : Int) * a) * a)) + (44119 : Int)) ^ (3 : Int).toNat).fmod (2147483549 : Int))))))))) (((((s21.2.fmod (2147483587 : Int)) + ((33311 : Int) * a)) + (6029 : Int)) ^ (5 : Int).toNat).fmod (2147483629 : Int))))))))) ((cells, a + 1, rest), cell) := fun cell => by
      have jn : JOk (n + 1) (cells, a + 1, rest) := ⟨by show 0 ≤ a + 1; omega, by show a + 1 ≤ ((n + 1 : Nat) : Int); omega⟩
      have p10 : CPow (10 : Int) (18 : Int) := ⟨by omega, by omega, by decide⟩
      have end1 : ∀ b : Bool, (if b = true then (CPow (10 : Int) (18 : Int) ∧ (CMul (2 : Int) ((cell.natAbs : Int) - ((10 : Int) ^ (18 : Int).toNat)) ∧ (fun (l_rest14 : Int) => (CDivN l_rest14 many ∧ (many ≠ 0 ∧ Kf (l_rest14.fmod many) (cells, a + 1, (l_rest14.fdiv many))))) (((2 : Int) * ((cell.natAbs : Int) - ((10 : Int) ^ (18 : Int).toNat))) + (if (decide (cell < (0 : Int))) then 1 else 0)))) else
  ((2147483587 : Int) ≠ 0 ∧ (CMul (33311 : Int) a ∧ (CPow (((cell.fmod (2147483587 : Int)) + ((33311 : Int) * a)) + (6029 : Int)) (5 : Int) ∧ ((2147483629 : Int) ≠ 0 ∧ (fun (l_mixed15 : Int) => (CMul (2 : Int) a ∧ (CMul l_mixed15 (((2 : Int) * a) + (1823 : Int)) ∧ (CMul (51131 : Int) a ∧ (CMul ((51131 : Int) * a) a ∧ (CPow (((l_mixed15 * (((2 : Int) * a) + (1823 : Int))) + (((51131 : Int) * a) * a)) + (44119 : Int)) (3 : Int) ∧ ((2147483549 : Int) ≠ 0 ∧ (fun (l_mixed16 : Int) => (CDivN l_mixed16 (64 : Int) ∧ (many ≠ 0 ∧ Kf ((l_mixed16.fdiv (64 : Int)).fmod many) (cells, a + 1, rest)))) (((((l_mixed15 * (((2 : Int) * a) + (1823 : Int))) + (((51131 : Int) * a) * a)) + (44119 : Int)) ^ (3 : Int).toNat).fmod (2147483549 : Int))))))))) (((((cell.fmod (2147483587 : Int)) + ((33311 : Int) * a)) + (6029 : Int)) ^ (5 : Int).toNat).fmod (2147483629 : Int))))))) := fun b => by
        cases b with
        | true =>
          rw [if_pos rfl]
          exact ⟨p10, .inl ⟨by omega, by omega⟩, dv _, nz, k _ _ (f0 _) (f1 _) ⟨by show 0 ≤ a + 1; omega, by show a + 1 ≤ ((n + 1 : Nat) : Int); omega⟩⟩
        | false =>
          rw [if_neg (by simp)]
          have q1 := fm cell 2147483587 (by omega)
          have q2 := fm (((cell.fmod 2147483587 + 33311 * a) + 6029) ^ (5 : Int).toNat) 2147483629 (by omega)
          exact ⟨by omega, .inl ⟨by omega, by omega⟩, ⟨by omega, by omega, by omega⟩, by omega, .inl ⟨by omega, by omega⟩, .inl ⟨by omega, by omega⟩, .inl ⟨by omega, by omega⟩, .inl ⟨by omega, by omega⟩,
            ⟨by omega, by omega, big3 q2.1 (by omega) ha (by omega) (by omega) (by omega) (by omega)⟩, by omega, ⟨by omega, by omega⟩, nz, k _ _ (f0 _) (f1 _) jn⟩
      dsimp only [mB]
      split
      · exact ⟨p10, end1 _⟩
      · exact end1 _
    unfold mIf
    split
    · rename_i hne
      have hl : 0 < (cells.length : Int) := by
        cases cells with
        | nil => simp at hne
        | cons x xs => simp
      have q := fm a cells.length hl
      obtain ⟨y, hy, _⟩ := pyAt_get (xs := cells) q.1 q.2
      exact ⟨by omega, y, hy, go y⟩
    · exact go _
end G
namespace G
open PySem L2 TL WM
theorem pick_ok {xs : List Int} {t : Jar} {n : Nat} {Kf : Int → Jar → Prop} (h0 : xs ≠ []) (h1 : xs.length < 1000000) (hn : n < 1048576) (J : JOk n t) (k : ∀ x t', x ∈ xs → JOk (n + 1) t' → Kf x t') : m_l_pick xs t Kf := by
  have hl : 0 < xs.length := List.length_pos_iff.mpr h0
  refine draw_ok (by omega) (by omega) hn J fun x t' q1 q2 j => ?_
  obtain ⟨y, e1, e2⟩ := pyAt_get (xs := xs) q1 q2
  exact ⟨y, e1, k y t' (List.mem_of_getElem? e2) j⟩
/-- letters of the kinds 1 .. k -/
def Ltk (k : Int) (l : List Int) : Prop := ∀ x ∈ l, x ≠ 0 ∧ -k ≤ x ∧ x ≤ k
theorem Ltk.app {k : Int} {a b : List Int} (h1 : Ltk k a) (h2 : Ltk k b) : Ltk k (a ++ b) := fun x hx => (List.mem_append.mp hx).elim (h1 x) (h2 x)
theorem Ltk.mono {k j : Int} {a : List Int} (h : Ltk k a) (e : k ≤ j) : Ltk j a := fun x hx => by have := h x hx; omega
theorem Ltk.sub {k : Int} {a b : List Int} (h : Ltk k b) (e : ∀ x ∈ a, x ∈ b) : Ltk k a := fun x hx => h x (e x hx)
theorem Ltk.inv {k : Int} {a : List Int} (h : Ltk k a) : Ltk k (inv a) := fun x hx => by
  unfold WM.inv at hx
  rw [List.mem_map] at hx
  obtain ⟨y, hy, rfl⟩ := hx
  have := h y (List.mem_reverse.mp hy)
  omega
theorem letters_ok {many kinds : Int} {t : Jar} {n : Nat} {Kf : List Int → Jar → Prop} (h0 : 0 ≤ many) (h1 : many ≤ 1000) (k0 : 0 < kinds) (k1 : kinds ≤ 26) (hn : n + 2 * many.toNat < 1048576) (J : JOk n t)
    (k : ∀ l t', l.length = many.toNat → Ltk kinds l → JOk (n + 2 * many.toNat) t' → Kf l t') : m_l_letters many kinds t Kf := by
  refine ⟨by simp, ⟨by omega, by omega⟩, ?_⟩
  have hl : (rangeL 0 many).length = many.toNat := by rw [rangeL_len]; simp
  refine mFor_n (fun i s => JOk (n + 2 * i) s.1 ∧ s.2.length = i ∧ Ltk kinds s.2) (by exact ⟨J, rfl, fun x hx => by simp at hx⟩) (fun i x s K hi _ ⟨j, hs, lt⟩ hk => ?_) (fun s ⟨j, hs, lt⟩ => ?_)
  · rw [hl] at hi
    refine draw_ok k0 (by omega) (by omega) j fun r t' r0 r1 j1 => ?_
    dsimp only [mB]
    refine draw_ok (by omega) (by omega) (by omega) j1 fun r2 t2 _ _ j2 => ?_
    have fin : ∀ v : Int, v ≠ 0 ∧ -kinds ≤ v ∧ v ≤ kinds → s.2.length ≤ 1000000 ∧ K (t2, s.2 ++ [v]) := fun v hv => ⟨by omega, hk _ ⟨j2.mono (by omega), by simp [hs], lt.app fun y hy => by
      rw [List.mem_singleton] at hy; subst hy; exact hv⟩⟩
    split
    · exact fin _ (by omega)
    · exact fin _ (by omega)
  · rw [hl] at j hs
    exact k s.2 s.1 hs lt j
theorem contrary_ok {l : List Int} {Kf : List Int → Prop} (h : l.length ≤ 1000000) (k : Kf (inv l)) : m_l_contrary l Kf :=
  ⟨by rw [List.length_reverse]; exact h, mMap_det (fun x => -x) (fun _ _ _ h => h) k⟩
theorem contrary_of_ok {l : List Int} {Kf : List Int → Prop} (h : l.length ≤ 1000000) (k : Kf (inv l)) : m_contrary_of l Kf :=
  ⟨by rw [List.length_reverse]; exact h, mMap_det (fun x => -x) (fun _ _ _ h => h) k⟩
theorem put_in_ok {l : List Int} {many kinds : Int} {t : Jar} {n : Nat} {Kf : List Int → Jar → Prop} (h0 : 0 ≤ many) (h1 : many ≤ 1000) (k0 : 0 < kinds) (k1 : kinds ≤ 26) (hl : l.length ≤ 1000) (lt : Ltk kinds l) (hn : n + 3 * many.toNat < 1048576) (J : JOk n t)
    (k : ∀ l' t', l'.length = l.length + 2 * many.toNat → Ltk kinds l' → red l' = red l → JOk (n + 3 * many.toNat) t' → Kf l' t') : m_l_put_in l many kinds t Kf := by
  refine ⟨⟨by omega, by omega⟩, ?_⟩
  have hr : (rangeL 0 many).length = many.toNat := by rw [rangeL_len]; simp
  refine mFor_n (fun i s => JOk (n + 3 * i) s.1 ∧ s.2.length = l.length + 2 * i ∧ Ltk kinds s.2 ∧ red s.2 = red l) (by exact ⟨J, rfl, lt, rfl⟩) (fun i x s K hi _ ⟨j, hs, lt, hd⟩ hk => ?_) (fun s ⟨j, hs, lt, hd⟩ => ?_)
  · rw [hr] at hi
    refine draw_ok (by omega) (by omega) (by omega) j fun r t1 r0 r1 j1 => ?_
    refine letters_ok (by omega) (by omega) k0 k1 (by simp; omega) j1 fun two t2 h2 lt2 j2 => ?_
    match two, h2 with
    | [v], _ =>
      rw [pyCut_take r0, pyCut_drop r0]
      have e1 : (s.2.take r.toNat).length ≤ s.2.length := by simp; omega
      have e2 : (s.2.drop r.toNat).length ≤ s.2.length := by simp
      refine ⟨by simp; omega, v, by rw [pyAt_zero]; rfl, by simp, by simp; omega, by simp; omega, ?_⟩
      dsimp only [mB]
      have lv := lt2 v (by simp)
      refine hk _ ⟨j2.mono (by simp; omega), by simp; omega, ?_, ?_⟩
      · refine (Ltk.app (Ltk.app (lt.sub fun x hx => List.mem_of_mem_take hx) lt2) (fun x hx => ?_)).app (lt.sub fun x hx => List.mem_of_mem_drop hx)
        rw [List.mem_singleton] at hx
        subst hx
        omega
      · have : s.2.take r.toNat ++ [v] ++ [-v] ++ s.2.drop r.toNat = s.2.take r.toNat ++ v :: -v :: s.2.drop r.toNat := by simp
        show red (s.2.take r.toNat ++ [v] ++ [-v] ++ s.2.drop r.toNat) = red l
        rw [this, red_cancel, List.take_append_drop, hd]
  · rw [hr] at j hs
    exact k s.2 s.1 hs lt hd j
/-! the spots where a letter stands behind its contrary -/
theorem spot_split {l : List Int} {i : Nat} {x y : Int} (h1 : l[i + 1]? = some x) (h0 : l[i]? = some y) : l = l.take i ++ y :: x :: l.drop (i + 2) := by
  have b1 : i + 1 < l.length := (List.getElem?_eq_some_iff.mp h1).1
  have e1 : l[i + 1] = x := (List.getElem?_eq_some_iff.mp h1).2
  have e0 : l[i] = y := (List.getElem?_eq_some_iff.mp h0).2
  have d1 : l.drop i = l[i] :: l.drop (i + 1) := (List.getElem_cons_drop (by omega)).symm
  have d2 : l.drop (i + 1) = l[i + 1] :: l.drop (i + 2) := (List.getElem_cons_drop b1).symm
  rw [← e0, ← e1, ← d2, ← d1, List.take_append_drop]
theorem no_spots : ∀ {l : List Int}, (∀ i : Nat, ∀ x y, l[i + 1]? = some x → l[i]? = some y → x ≠ -y) → Rd l
  | [], _ => trivial
  | [_], _ => trivial
  | a :: b :: r, h => ⟨fun e => h 0 b a rfl rfl (by omega), no_spots fun i x y h1 h2 => h (i + 1) x y h1 h2⟩
def isSpot (l : List Int) (i : Int) : Bool := decide (l[i.toNat]?.getD 0 = -(l[(i - 1).toNat]?.getD 0))
def spots (l : List Int) : List Int := (rangeL 1 l.length).filter (isSpot l)
theorem spots_ok {l : List Int} {K : List Int → Prop} (h : l.length ≤ 100000) (k : K (spots l)) : (-(2 ^ 62) ≤ (1 : Int) ∧ (1 : Int) < 2 ^ 62 ∧ -(2 ^ 62) ≤ (l.length : Int) ∧ (l.length : Int) < 2 ^ 62) ∧ ((rangeL (1 : Int) (l.length : Int)).length ≤ 1000000 ∧ mMapIf (rangeL (1 : Int) (l.length : Int)) (fun (x131 : Int) K134 => (∃ v149, pyAt l x131 = some v149 ∧ (∃ v150, pyAt l (x131 - (1 : Int)) = some v150 ∧ K134 (decide (v149 = (-v150)))))) (fun (x131 : Int) K133 => K133 x131) K) := by
  refine ⟨by omega, by rw [rangeL_len]; omega, mMapIf_det (isSpot l) id (fun x hx K hK => ?_) (fun _ _ _ _ h => h) (by rw [List.map_id]; exact k)⟩
  rw [rangeL_mem] at hx
  obtain ⟨y, e1, e2⟩ := pyAt_get (xs := l) (i := x) (by omega) (by omega)
  obtain ⟨z, e3, e4⟩ := pyAt_get (xs := l) (i := x - 1) (by omega) (by omega)
  refine ⟨y, e1, z, e3, ?_⟩
  unfold isSpot at hK
  rw [e2, e4] at hK
  exact hK
theorem spots_mem {l : List Int} {i : Int} (h : i ∈ spots l) : ∃ (j : Nat) (x : Int), i = (j : Int) + 1 ∧ l = l.take j ++ x :: -x :: l.drop (j + 2) := by
  obtain ⟨h1, h2⟩ := List.mem_filter.mp h
  rw [rangeL_mem] at h1
  unfold isSpot at h2
  have e := of_decide_eq_true h2
  obtain ⟨j, rfl⟩ : ∃ j : Nat, i = (j : Int) + 1 := ⟨(i - 1).toNat, by omega⟩
  have t1 : ((j : Int) + 1).toNat = j + 1 := by omega
  have t2 : ((j : Int) + 1 - 1).toNat = j := by omega
  rw [t1, t2] at e
  have g1 : l[j + 1]? = some l[j + 1] := List.getElem?_eq_getElem (by omega)
  have g2 : l[j]? = some l[j] := List.getElem?_eq_getElem (by omega)
  rw [g1, g2] at e
  simp at e
  rw [e] at g1
  exact ⟨j, _, rfl, spot_split g1 g2⟩
theorem spots_none {l : List Int} (h : spots l = []) : Rd l := by
  refine no_spots fun i x y h1 h0 e => ?_
  have b1 : i + 1 < l.length := (List.getElem?_eq_some_iff.mp h1).1
  have : ((i : Int) + 1) ∈ spots l := by
    refine List.mem_filter.mpr ⟨rangeL_mem.mpr ⟨by omega, by omega⟩, ?_⟩
    unfold isSpot
    have t1 : ((i : Int) + 1).toNat = i + 1 := by omega
    have t2 : ((i : Int) + 1 - 1).toNat = i := by omega
    rw [t1, t2, h1, h0]
    exact decide_eq_true e
  rw [h] at this
  cases this
theorem taken_out_ok {l : List Int} {t : Jar} {n : Nat} {Kf : List Int → Jar → Prop} (hl : l.length ≤ 100000) (hn : n + l.length < 1048576) (J : JOk n t) (k : ∀ t', JOk (n + l.length) t' → Kf (red l) t') : m_l_taken_out l t Kf := by
  unfold m_l_taken_out
  refine spots_ok hl ?_
  refine mWhile_of (fun s => JOk (n + (l.length - s.2.1.length)) s.1 ∧ s.2.1.length ≤ l.length ∧ red s.2.1 = red l ∧ s.2.2 = spots s.2.1) (fun s => s.2.1.length) (by exact ⟨by rw [Nat.sub_self]; exact J, Nat.le_refl _, rfl, rfl⟩) (fun s N ⟨j, hs, hr, hp⟩ hN => ?_)
  refine ⟨by simp, ?_⟩
  dsimp only [mB]
  split
  · rename_i hne
    have hne : s.2.2 ≠ [] := by simpa using hne
    have hsl : s.2.2.length ≤ 100000 := by
      rw [hp]
      refine Nat.le_trans (List.length_filter_le _ _) ?_
      rw [rangeL_len]; omega
    refine pick_ok hne (by omega) (by omega) j fun r t' hr2 j2 => ?_
    rw [hp] at hr2
    obtain ⟨i, x, rfl, e⟩ := spots_mem hr2
    have elen := congrArg List.length e
    simp at elen
    rw [pyCut_take (by omega), pyCut_drop (by omega)]
    have t1 : ((i : Int) + 1 - 1).toNat = i := by omega
    have t2 : ((i : Int) + 1 + 1).toNat = i + 2 := by omega
    rw [t1, t2]
    have l2 : (s.2.1.take i ++ s.2.1.drop (i + 2)).length + 2 = s.2.1.length := by simp; omega
    rw [List.length_append] at l2
    refine ⟨by omega, ?_⟩
    refine spots_ok (by rw [List.length_append]; omega) ?_
    refine hN _ ⟨j2.mono ?_, ?_, ?_, rfl⟩ ?_
    · show n + (l.length - s.2.1.length) + 1 ≤ n + (l.length - (s.2.1.take i ++ s.2.1.drop (i + 2)).length)
      rw [List.length_append]; omega
    · show (s.2.1.take i ++ s.2.1.drop (i + 2)).length ≤ l.length
      rw [List.length_append]; omega
    · show red (s.2.1.take i ++ s.2.1.drop (i + 2)) = red l
      rw [← hr]
      conv => rhs; rw [e]
      rw [red_cancel]
    · show (s.2.1.take i ++ s.2.1.drop (i + 2)).length < s.2.1.length
      rw [List.length_append]; omega
  · rename_i he
    have he : s.2.2 = [] := by simpa using he
    rw [hp] at he
    have := red_of (spots_none he)
    rw [hr] at this
    rw [← this]
    exact k _ (j.mono (by omega))
theorem ends_off_ok {l : List Int} {Kf : List Int → Prop} (k : Kf (core l)) : m_l_ends_off l Kf := by
  unfold m_l_ends_off
  refine mWhile_of (fun s => ∃ p, l = p ++ s ++ inv p) List.length (by exact ⟨[], by simp [inv]⟩) (fun s N ⟨p, hp⟩ hN => ?_)
  dsimp only [mB]
  split
  · rename_i h1
    have h1 : 1 < s.length := by have := of_decide_eq_true h1; omega
    obtain ⟨x, m, y, rfl⟩ := ends_of h1
    refine ⟨x, by rw [pyAt_zero]; rfl, y, by rw [pyAt_last, last_ends], ?_⟩
    split
    · rename_i e
      have e : x = -y := by simpa using e
      rw [pyCut_ends h1, mid_ends]
      refine hN m ⟨p ++ [x], ?_⟩ (by simp; omega)
      rw [hp, inv_app, e]
      simp [inv]
    · rename_i e
      have e : ¬ x = -y := by simpa using e
      have : core l = x :: (m ++ [y]) := core_is hp fun a b _ ha hb => by
        rw [head_ends] at ha
        rw [last_ends] at hb
        cases ha; cases hb
        exact e
      rw [← this]; exact k
  · rename_i h1
    have h1 : ¬ 1 < s.length := fun z => h1 (decide_eq_true (by omega))
    rw [if_neg (by simp)]
    have : core l = s := core_is hp fun a b h => absurd h h1
    rw [← this]; exact k
theorem rounded_ok {l : List Int} {Kf : List Int → Prop} (k : Kf (core l)) : m_rounded_of l Kf := by
  unfold m_rounded_of
  dsimp only [mB]
  refine mWhile_of (fun s : Int => ∃ p b, s = (p.length : Int) ∧ l = p ++ b ++ inv p) (fun s => l.length - s.toNat) (by exact ⟨[], l, rfl, by simp [inv]⟩) (fun s N ⟨p, b, es, hp⟩ hN => ?_)
  subst es
  have hlen : l.length = 2 * p.length + b.length := by
    have := congrArg List.length hp
    simp [inv_len] at this
    omega
  have fin : Cyc b → Kf (pyCut l (some (p.length : Int)) (some ((l.length : Int) - (p.length : Int)))) := fun hc => by
    rw [pyCut_mid (by omega) (by omega) (by omega)]
    have : (l.drop ((p.length : Int)).toNat).take (((l.length : Int) - (p.length : Int)).toNat - ((p.length : Int)).toNat) = b := by
      have t1 : ((p.length : Int)).toNat = p.length := by omega
      have t2 : ((l.length : Int) - (p.length : Int)).toNat - p.length = b.length := by omega
      rw [t1, t2, hp, List.append_assoc, List.drop_left, List.take_left]
    rw [this, ← core_is hp hc]
    exact k
  split
  · rename_i h1
    have h1 : (p.length : Int) < ((l.length : Int) - 1) - (p.length : Int) := by simpa using h1
    obtain ⟨x, m, y, rfl⟩ := ends_of (l := b) (by omega)
    have g1 : pyAt l (p.length : Int) = some x := by
      rw [pyAt_nat (by omega) (by omega)]
      have t1 : ((p.length : Int)).toNat = p.length := by omega
      rw [t1, hp, List.append_assoc, List.getElem?_append_right (by omega), Nat.sub_self]
      rfl
    have g2 : pyAt l (((l.length : Int) - 1) - (p.length : Int)) = some y := by
      rw [pyAt_nat (by omega) (by omega)]
      have t1 : (((l.length : Int) - 1) - (p.length : Int)).toNat = (p ++ x :: m).length := by
        simp at hlen ⊢
        omega
      have e : l = (p ++ x :: m) ++ (y :: inv p) := by rw [hp]; simp
      rw [t1]
      conv => lhs; rw [e]
      rw [List.getElem?_append_right (by omega), Nat.sub_self]
      rfl
    refine ⟨x, g1, y, g2, ?_⟩
    dsimp only [mB]
    split
    · rename_i e
      have e : x = -y := by simpa using e
      refine hN _ ⟨p ++ [x], m, by simp, ?_⟩ ?_
      · rw [hp, inv_app, e]
        simp [inv]
      · simp at hlen
        omega
    · rename_i e
      have e : ¬ x = -y := by simpa using e
      exact fin fun a b _ ha hb => by
        rw [head_ends] at ha
        rw [last_ends] at hb
        cases ha; cases hb
        exact e
  · rename_i h1
    have h1 : ¬ (p.length : Int) < ((l.length : Int) - 1) - (p.length : Int) := by simpa using h1
    dsimp only [mB]
    rw [if_neg (by simp)]
    exact fin fun a b h => by omega
end G
namespace G
open PySem L2 TL WM
theorem up_len : ∀ {l : List Int} {lo hi : Int}, l.Pairwise (· < ·) → (∀ x ∈ l, lo ≤ x ∧ x ≤ hi) → (l.length : Int) ≤ max 0 (hi - lo + 1)
  | [], lo, hi, _, _ => by simp; omega
  | x :: l, lo, hi, h, hb => by
    have h1 := List.pairwise_cons.mp h
    have ih := up_len (lo := x + 1) (hi := hi) h1.2 fun y hy => ⟨by have := h1.1 y hy; omega, (hb y (List.mem_cons_of_mem _ hy)).2⟩
    have := hb x List.mem_cons_self
    simp only [List.length_cons]
    omega
theorem is_letter_ok {x : Int} {Kf : Bool → Prop} (h : x ≠ 0 ∧ -26 ≤ x ∧ x ≤ 26) (k : Kf true) : m_is_letter x Kf := by
  have e1 : decide (-(26 : Int) ≤ x) = true := decide_eq_true h.2.1
  have e2 : decide (x ≤ (26 : Int)) = true := decide_eq_true h.2.2
  have e3 : (!decide (x = (0 : Int))) = true := by rw [decide_eq_false h.1]; rfl
  unfold m_is_letter m_is_within m_is_integer
  simp only [mB, Bool.not_false, Bool.not_true, if_true, if_false, Bool.false_eq_true, e1, e2, e3]
  exact k
theorem are_letters_ok {l : List Int} {Kf : Bool → Prop} (h : Ltk 26 l) (hl : l.length ≤ 1000000) (k : Kf true) : m_are_letters l Kf := by
  unfold m_are_letters m_is_listed
  dsimp only [mB]
  rw [if_pos rfl]
  refine ⟨hl, mMap_det (fun _ => true) (fun x hx K hK => is_letter_ok (h x hx) hK) ?_⟩
  have : (l.map fun _ => true).all id = true := by simp
  rw [this]; exact k
theorem are_letters_v1_ok {l : List Int} {Kf : Bool → Prop} (h : Ltk 26 l) (hl : l.length ≤ 1000000) (k : Kf true) : m_are_letters_v1 l Kf := by
  unfold m_are_letters_v1 m_is_listed_v1
  dsimp only [mB]
  rw [if_pos rfl]
  refine ⟨hl, mMap_det (fun _ => true) (fun x hx K hK => is_letter_ok (h x hx) hK) ?_⟩
  have : (l.map fun _ => true).all id = true := by simp
  rw [this]; exact k
def rdB (l : List Int) : Bool := ((List.zip l (l.drop 1)).map fun z => !decide (z.1 = -z.2)).all id
theorem rdB_iff : ∀ (l : List Int), rdB l = true ↔ Rd l
  | [] => by simp [rdB, WM.Rd]
  | [x] => by simp [rdB, WM.Rd]
  | x :: y :: r => by
    have ih := rdB_iff (y :: r)
    show _ ↔ (x ≠ -y ∧ Rd (y :: r))
    rw [← ih]
    unfold rdB
    simp
theorem are_short_ok {l : List Int} {Kf : Bool → Prop} (hl : l.length ≤ 1000000) (k : Kf (rdB l)) : m_are_short l Kf := by
  unfold m_are_short
  rw [pyCut_drop (by omega)]
  refine ⟨by rw [List.length_zip]; omega, mMap_det _ (fun _ _ _ h => h) k⟩
def mkW (l : List Int) : D_Word := ⟨l, l.length, sortU (l.map fun x => (x.natAbs : Int)), rdB l, if rdB l = true then decide (core l = l) else false⟩
theorem kinds_few {l : List Int} (h : Ltk 26 l) : (sortU (l.map fun x => (x.natAbs : Int))).length < 64 := by
  have := up_len (lo := 1) (hi := 26) (sortU_up (l.map fun x => (x.natAbs : Int))) fun x hx => by
    rw [sortU_mem] at hx
    obtain ⟨y, hy, rfl⟩ := List.mem_map.mp hx
    have := h y hy
    omega
  omega
theorem need_few_ok {n : Int} {Kf : Unit → Prop} (h : n ≤ 500) (k : Kf ()) : m_need_few n Kf := by
  unfold m_need_few
  rw [if_neg (by simp; omega)]
  exact k
theorem init_ok {l : List Int} {Kf : D_Word → Prop} (h : Ltk 26 l) (hl : l.length ≤ 500) (k : Kf (mkW l)) : m_Word___init__ l Kf := by
  unfold m_Word___init__
  refine are_letters_ok h (by omega) ?_
  rw [if_neg (by simp)]
  refine need_few_ok (by omega) ?_
  dsimp only [mB]
  refine ⟨by omega, mMap_det (fun x : Int => (x.natAbs : Int)) (fun _ _ _ h => h) ⟨kinds_few h, are_short_ok (by omega) ?_⟩⟩
  unfold mkW at k
  split
  · rename_i e
    rw [if_pos e] at k
    exact rounded_ok k
  · rename_i e
    rw [if_neg e] at k
    exact k
theorem init_v1_ok {l : List Int} {Kf : D_Word → Prop} (h : Ltk 26 l) (hl : l.length ≤ 500) (k : Kf (mkW l)) : m_Word___init___v1 l Kf := by
  unfold m_Word___init___v1
  refine are_letters_v1_ok h (by omega) ?_
  rw [if_neg (by simp)]
  refine need_few_ok (by omega) ?_
  dsimp only [mB]
  refine ⟨by omega, mMap_det (fun x : Int => (x.natAbs : Int)) (fun _ _ _ h => h) ⟨kinds_few h, are_short_ok (by omega) ?_⟩⟩
  unfold mkW at k
  split
  · rename_i e
    rw [if_pos e] at k
    exact rounded_ok k
  · rename_i e
    rw [if_neg e] at k
    exact k
/-- one turn of the pile -/
theorem pile_step {s : List Int} {x : Int} {r l : List Int} (h1 : Rd s) (h2 : red (s ++ x :: r) = red l) :
    ((∃ v, s.getLast? = some v ∧ v = -x) → Rd s.dropLast ∧ red (s.dropLast ++ r) = red l) ∧ ((∀ v, s.getLast? = some v → v ≠ -x) → Rd (s ++ [x]) ∧ red (s ++ [x] ++ r) = red l) := by
  constructor
  · rintro ⟨v, hv, rfl⟩
    have hne : s ≠ [] := by intro z; subst z; cases hv
    have e : s = s.dropLast ++ [-x] := by
      have h5 : s.getLast hne = -x := by
        rw [List.getLast?_eq_some_getLast hne] at hv
        exact Option.some.inj hv
      conv => lhs; rw [← List.dropLast_concat_getLast hne, h5]
    rw [e] at h1 h2
    refine ⟨rd_left h1, ?_⟩
    have : s.dropLast ++ [-x] ++ x :: r = s.dropLast ++ (-x) :: -(-x) :: r := by simp
    rw [this, red_cancel] at h2
    exact h2
  · intro h
    refine ⟨rd_append.mpr ⟨h1, trivial, fun a b ha hb => ?_⟩, by rw [← h2]; simp⟩
    simp at hb
    subst hb
    exact h a ha
theorem shortened_ok {l : List Int} {Kf : List Int → Prop} (hl : l.length ≤ 100000) (k : Kf (red l)) : m_shortened_of l Kf := by
  unfold m_shortened_of
  refine ⟨by simp, ?_⟩
  refine mFor_inv (fun r s => Rd s ∧ red (s ++ r) = red l ∧ s.length + r.length ≤ l.length) (by exact ⟨trivial, rfl, by simp⟩) (fun x r s K ⟨h1, h2, h3⟩ hk => ?_) (fun s ⟨h1, h2, h3⟩ => ?_)
  · simp at h3
    have st := pile_step h1 h2
    have push : (∀ v, s.getLast? = some v → v ≠ -x) → s.length ≤ 1000000 ∧ K (s ++ [x]) := fun hv => ⟨by omega, hk _ ⟨(st.2 hv).1, (st.2 hv).2, by simp; omega⟩⟩
    dsimp only [mB]
    split
    · rename_i hne
      have hne : s ≠ [] := by
        intro z; subst z; simp at hne
      refine ⟨s.getLast hne, by rw [pyAt_last, List.getLast?_eq_some_getLast hne], ?_⟩
      unfold mIf
      split
      · rename_i e
        have e := of_decide_eq_true e
        have hg : s.getLast? = some (s.getLast hne) := List.getLast?_eq_some_getLast hne
        refine ⟨s.getLast hne, by rw [← List.getLast?_eq_getElem?, hg], hk _ ⟨(st.1 ⟨_, hg, e⟩).1, (st.1 ⟨_, hg, e⟩).2, by simp; omega⟩⟩
      · rename_i e
        have e : ¬ s.getLast hne = -x := fun z => e (decide_eq_true z)
        exact push fun v hv => by
          rw [List.getLast?_eq_some_getLast hne] at hv
          cases hv
          exact e
    · rename_i hne
      have hne : s = [] := by
        cases s with
        | nil => rfl
        | cons a b => simp at hne
      unfold mIf
      rw [if_neg (by simp)]
      exact push fun v hv => by rw [hne] at hv; cases hv
  · rw [List.append_nil] at h2
    rw [← red_of h1, h2]
    exact k
theorem W_short_ok {l : List Int} {Kf : D_Word → Prop} (h : Ltk 26 l) (hl : l.length ≤ 500) (k : Kf (mkW (red l))) : m_Word_shortened (mkW l) Kf :=
  shortened_ok (by show l.length ≤ _; omega) (init_v1_ok (h.sub fun x hx => red_mem hx) (by have := red_len l; show (red l).length ≤ 500; omega) k)
theorem core_le (l : List Int) : (core l).length ≤ l.length := by
  obtain ⟨k, h⟩ := core_len l
  omega
theorem W_round_ok {l : List Int} {Kf : D_Word → Prop} (h : Ltk 26 l) (hl : l.length ≤ 500) (k : Kf (mkW (core (red l)))) : m_Word_shortened_round (mkW l) Kf :=
  shortened_ok (by show l.length ≤ _; omega) (rounded_ok (init_v1_ok (h.sub fun x hx => red_mem (core_mem hx)) (by have := red_len l; have := core_le (red l); show (core (red l)).length ≤ 500; omega) k))
theorem W_contrary_ok {l : List Int} {Kf : D_Word → Prop} (h : Ltk 26 l) (hl : l.length ≤ 500) (k : Kf (mkW (inv l))) : m_Word_contrary (mkW l) Kf :=
  contrary_of_ok (by show l.length ≤ _; omega) (init_v1_ok h.inv (by rw [inv_len]; exact hl) k)
theorem W_then_ok {a b : List Int} {Kf : D_Word → Prop} (h : Ltk 26 a) (h' : Ltk 26 b) (hl : a.length + b.length ≤ 500) (k : Kf (mkW (a ++ b))) : m_Word_then (mkW a) (mkW b) Kf := by
  unfold m_Word_then m_need_word
  rw [if_neg (by simp)]
  exact ⟨by show a.length + b.length ≤ _; omega, init_v1_ok (h.app h') (by rw [List.length_append]; exact hl) k⟩
/-- the n-th power -/
def pow (n : Int) (l : List Int) : List Int := rep n.natAbs (if 0 < n then l else inv l)
theorem W_times_ok {l : List Int} {n : Int} {Kf : D_Word → Prop} (h : Ltk 26 l) (hl : l.length * n.natAbs ≤ 500) (hn : n.natAbs ≤ 1000) (h5 : l.length ≤ 500) (k : Kf (mkW (pow n l))) : m_Word_times (mkW l) n Kf := by
  unfold m_Word_times m_need_number m_is_within_v1 m_is_integer
  simp only [mB, Bool.not_false, Bool.not_true, if_true, if_false, Bool.false_eq_true]
  split
  · rename_i e
    have e : (l.length : Int) = 0 := of_decide_eq_true e
    have : l = [] := List.eq_nil_of_length_eq_zero (by omega)
    subst this
    have : pow n [] = [] := by
      unfold pow
      have : (if 0 < n then ([] : List Int) else inv []) = [] := by split <;> rfl
      rw [this, rep_nil]
    rw [this] at k
    exact k
  · refine ⟨.inl ⟨by show _ < (l.length : Int); omega, by show (l.length : Int) < _; omega⟩, need_few_ok (by show (l.length : Int) * (n.natAbs : Int) ≤ 500; rw [← Int.natCast_mul]; omega) ?_⟩
    have fin : ∀ v : List Int, v.length = l.length → Ltk 26 v → v = (if 0 < n then l else inv l) → ((-(2 ^ 63) ≤ (n.natAbs : Int) ∧ (n.natAbs : Int) < 2 ^ 63 ∧ v.length * (n.natAbs : Int).toNat ≤ 1000000) ∧ m_Word___init___v1 (pyRep v (n.natAbs : Int)) fun w282 => Kf w282) := fun v hv lv ev => by
      have ep : pyRep v (n.natAbs : Int) = pow n l := by
        unfold pyRep pow
        rw [← ev]; rfl
      refine ⟨⟨by omega, by omega, by rw [hv, Int.toNat_natCast]; omega⟩, ?_⟩
      rw [ep]
      refine init_v1_ok ?_ ?_ k
      · unfold pow
        rw [← ev]
        intro x hx
        unfold rep at hx
        obtain ⟨q, hq, hx⟩ := List.mem_flatten.mp hx
        rw [(List.mem_replicate.mp hq).2] at hx
        exact lv x hx
      · unfold pow
        rw [← ev, rep_len, hv, Nat.mul_comm]
        exact hl
    split
    · rename_i e
      have e : 0 < n := of_decide_eq_true e
      exact fin _ rfl h (by rw [if_pos e]; rfl)
    · rename_i e
      have e : ¬ 0 < n := fun z => e (decide_eq_true z)
      exact contrary_of_ok (by show l.length ≤ _; omega) (fin _ (inv_len l) h.inv (by rw [if_neg e]; rfl))
theorem eqW_mk (a b : List Int) : eqW (mkW a) (mkW b) = decide (a = b) := rfl
end G
namespace G
open PySem L2 TL WM
theorem ltk_red {k : Int} {l : List Int} (h : Ltk k l) : Ltk k (red l) := h.sub fun x hx => red_mem hx
theorem ltk_core {k : Int} {l : List Int} (h : Ltk k l) : Ltk k (core l) := h.sub fun x hx => core_mem hx
theorem rdB_true {l : List Int} (h : WM.Rd l) : rdB l = true := (rdB_iff l).mpr h
theorem short_iff (l : List Int) : rdB l = decide (red l = l) := by
  by_cases h : WM.Rd l
  · rw [rdB_true h, red_of h]; simp
  · have e : ¬ red l = l := fun e => h (by rw [← e]; exact rd_red l)
    have e2 : rdB l = false := by
      cases q : rdB l with
      | false => rfl
      | true => exact absurd ((rdB_iff l).mp q) h
    rw [e2, decide_eq_false e]
theorem round_iff (l : List Int) : (if rdB l = true then decide (core l = l) else false) = decide (core (red l) = l) := by
  by_cases h : WM.Rd l
  · rw [if_pos (rdB_true h), red_of h]
  · have e2 : rdB l ≠ true := fun z => h ((rdB_iff l).mp z)
    rw [if_neg e2]
    have : ¬ core (red l) = l := fun e => h (by rw [← e]; exact rd_core (rd_red l))
    rw [decide_eq_false this]
theorem inv_core_red (l : List Int) : core (red (core (red l))) = core (red l) := by
  rw [red_of (rd_core (rd_red l)), core_core]
theorem short_right_ok {l : List Int} {t : Jar} {n : Nat} {Kf : Bool → Jar → Prop} (h : Ltk 26 l) (hl : l.length ≤ 250) (hn : n + 2 * l.length < 1048576) (J : JOk n t) (k : ∀ t', JOk (n + 2 * l.length) t' → Kf true t') : m_l_short_right l t Kf := by
  unfold m_l_short_right
  have lr := red_len l
  have lc := core_le (red l)
  have hr := ltk_red h
  have hc := ltk_core hr
  refine init_ok h (by omega) (taken_out_ok (by omega) (by omega) J fun t1 j1 => W_short_ok h (by omega) (W_round_ok h (by omega) ?_))
  refine mB_of (fun b t' => b = false ∧ JOk (n + 2 * l.length) t') (fun K hK => ?_) ?_
  · rw [if_neg (by simp), if_neg (by simp), if_neg (by simp [mkW])]
    exact taken_out_ok (by omega) (by omega) j1 fun t2 j2 => hK _ _ ⟨by simp, j2.mono (by omega)⟩
  rintro b t2 ⟨rfl, j2⟩
  rw [if_neg (by simp)]
  refine mB_of (fun b t' => b = false ∧ t' = t2) (fun K hK => ?_) ?_
  · refine ends_off_ok ?_
    rw [if_neg (by simp [mkW])]
    exact hK _ _ ⟨by simp [mkW], rfl⟩
  rintro b t3 ⟨rfl, rfl⟩
  rw [if_neg (by simp)]
  refine mB_of (fun b t' => b = false ∧ t' = t3) (fun K hK => ?_) ?_
  · have e1 : (mkW (red l)).is_short = true := rdB_true (rd_red l)
    have e2 : (mkW (core (red l))).is_short_round = true := by
      show (if rdB (core (red l)) = true then decide (core (core (red l)) = core (red l)) else false) = true
      rw [if_pos (rdB_true (rd_core (rd_red l))), core_core]; simp
    rw [if_neg (by rw [e1]; simp), if_neg (by rw [e2]; simp)]
    refine W_short_ok hr (by omega) ?_
    rw [eqW_mk, red_red, if_neg (by simp)]
    refine W_round_ok hc (by omega) ?_
    rw [eqW_mk, inv_core_red]
    exact hK _ _ ⟨by simp, rfl⟩
  rintro b t4 ⟨rfl, rfl⟩
  rw [if_neg (by simp)]
  refine mB_of (fun b t' => b = false ∧ t' = t4) (fun K hK => ⟨by simp, by simp, ?_⟩) ?_
  · have e1 : ([(mkW l).is_short, (mkW l).is_short_round] = [eqW (mkW (red l)) (mkW l), eqW (mkW (core (red l))) (mkW l)]) := by
      rw [eqW_mk, eqW_mk]
      show [rdB l, if rdB l = true then decide (core l = l) else false] = _
      rw [round_iff, short_iff]
    rw [if_neg (by rw [e1]; simp)]
    refine W_contrary_ok h (by omega) (W_short_ok h.inv (by rw [inv_len]; omega) (W_contrary_ok hr (by omega) (hK _ _ ⟨?_, rfl⟩)))
    rw [eqW_mk, red_inv]; simp
  rintro b t5 ⟨rfl, rfl⟩
  rw [if_neg (by simp)]
  refine mB_of (fun b t' => b = true ∧ t' = t5) (fun K hK => ?_) ?_
  · refine W_contrary_ok h (by omega) (W_then_ok h h.inv (by rw [inv_len]; omega) (W_short_ok (h.app h.inv) (by rw [List.length_append, inv_len]; omega) ⟨by simp, init_ok (fun x hx => by simp at hx) (by simp) ?_⟩))
    have e1 : red (l ++ inv l) = [] := by
      have := red_inv_right l []
      rwa [List.append_nil] at this
    have e2 : red (inv l ++ l) = [] := by
      have := red_inv_left l []
      rwa [List.append_nil] at this
    rw [eqW_mk, e1, if_pos (by simp)]
    refine W_contrary_ok h (by omega) (W_then_ok h.inv h (by rw [inv_len]; omega) (W_round_ok (h.inv.app h) (by rw [List.length_append, inv_len]; omega) (hK _ _ ⟨?_, rfl⟩)))
    rw [eqW_mk, e2, core_nil]; simp
  rintro b t6 ⟨rfl, rfl⟩
  exact k _ j2
theorem pow_red (n : Int) (l : List Int) : red (pow n l) = red (pow n (red l)) := by
  unfold pow
  split
  · exact red_rep (red_red l).symm _
  · exact red_rep (by rw [red_inv, red_inv, red_red]) _
theorem pow_len (n : Int) (l : List Int) : (pow n l).length = n.natAbs * l.length := by
  unfold pow
  rw [rep_len]
  split
  · rfl
  · rw [inv_len]
theorem ltk_rep {k : Int} {l : List Int} (n : Nat) (h : Ltk k l) : Ltk k (rep n l) := fun x hx => by
  unfold rep at hx
  obtain ⟨q, hq, hx⟩ := List.mem_flatten.mp hx
  rw [(List.mem_replicate.mp hq).2] at hx
  exact h x hx
theorem ltk_pow {k : Int} {l : List Int} (n : Int) (h : Ltk k l) : Ltk k (pow n l) := by
  unfold pow
  split
  · exact ltk_rep _ h
  · exact ltk_rep _ h.inv
theorem behind_right_ok {l o : List Int} {t : Jar} {n : Nat} {Kf : Bool → Jar → Prop} (h : Ltk 26 l) (ho : Ltk 26 o) (hl : l.length ≤ 100) (hlo : o.length ≤ 100) (hn : n + 2 * l.length + o.length + 1 < 1048576) (J : JOk n t)
    (k : ∀ t', JOk (n + 2 * l.length + o.length + 1) t' → Kf true t') : m_l_behind_right l o t Kf := by
  unfold m_l_behind_right
  have lr := red_len l
  have lro := red_len o
  have lc := core_le (red l)
  have hr := ltk_red h
  have hro := ltk_red ho
  refine init_ok h (by omega) (init_ok ho (by omega) (W_then_ok h ho (by omega) (W_short_ok (h.app ho) (by rw [List.length_append]; omega) ?_)))
  refine mB_of (fun b t' => b = false ∧ JOk (n + l.length + o.length) t') (fun K hK => ?_) ?_
  · refine W_short_ok h (by omega) (W_short_ok ho (by omega) (W_then_ok hr hro (by omega) (W_short_ok (hr.app hro) (by rw [List.length_append]; omega) ?_)))
    rw [eqW_mk, red_app_red, red_red_app, if_neg (by simp)]
    refine ⟨by omega, taken_out_ok (by rw [List.length_append]; omega) (by rw [List.length_append]; omega) J fun t1 j1 => hK _ _ ⟨by simp [mkW], j1.mono (by rw [List.length_append]; omega)⟩⟩
  rintro b t1 ⟨rfl, j1⟩
  rw [if_neg (by simp)]
  refine draw_ok (by omega) (by omega) (by omega) j1 fun r t2 r0 r1 j2 => ?_
  dsimp only
  have na : (r - 3).natAbs ≤ 3 := by omega
  have m1 : ∀ a : Nat, a ≤ 100 → a * (r - 3).natAbs ≤ 500 := fun a ha => by
    have : a * (r - 3).natAbs ≤ 100 * 3 := Nat.mul_le_mul ha na
    omega
  have m2 : ∀ a : Nat, a ≤ 100 → (r - 3).natAbs * a ≤ 500 := fun a ha => by rw [Nat.mul_comm]; exact m1 a ha
  refine W_times_ok h (m1 _ hl) (by omega) (by omega) (W_short_ok (ltk_pow _ h) (by rw [pow_len]; exact m2 _ hl) (W_short_ok h (by omega) (W_times_ok hr (m1 _ (by omega)) (by omega) (by omega) (W_short_ok (ltk_pow _ hr) (by rw [pow_len]; exact m2 _ (by omega)) ?_))))
  rw [eqW_mk, ← pow_red, if_neg (by simp)]
  refine W_then_ok ho h (by omega) (W_contrary_ok ho (by omega) (W_then_ok (ho.app h) ho.inv (by rw [List.length_append, inv_len]; omega) (W_round_ok ((ho.app h).app ho.inv) (by rw [List.length_append, List.length_append, inv_len]; omega) ?_)))
  refine taken_out_ok (by omega) (by omega) j2 fun t3 j3 => ends_off_ok ⟨by simp, ?_⟩
  have jf : JOk (n + 2 * l.length + o.length + 1) t3 := j3.mono (by omega)
  have rot := core_conj o l
  split
  · rename_i e
    have e := of_decide_eq_true e
    refine ⟨by simp, init_ok (fun x hx => by simp at hx) (by simp) ?_⟩
    obtain ⟨u, v, h1, h2⟩ := rot
    rw [e] at h1
    have hu : u = [] := (List.append_eq_nil_iff.mp h1.symm).1
    have hv : v = [] := (List.append_eq_nil_iff.mp h1.symm).2
    subst hu; subst hv
    rw [eqW_mk, h2]
    exact k _ jf
  · rename_i e
    have e : core (red l) ≠ [] := fun z => e (decide_eq_true z)
    refine ⟨⟨by omega, by omega⟩, by rw [rangeL_len]; omega, mMap_det (fun x : Int => (core (red l)).drop x.toNat ++ (core (red l)).take x.toNat) (fun x hx K hK => ?_) ?_⟩
    · rw [rangeL_mem] at hx
      rw [pyCut_drop hx.1, pyCut_take hx.1]
      exact ⟨by rw [List.length_drop, List.length_take]; omega, hK⟩
    · have : memB (mkW (core (red (o ++ l ++ inv o)))).letters ((rangeL 0 ((core (red l)).length : Int)).map fun x : Int => (core (red l)).drop x.toNat ++ (core (red l)).take x.toNat) = true := by
        refine memB_true ?_
        rw [List.mem_map]
        obtain ⟨u, v, h1, h2⟩ := rot
        show ∃ a, a ∈ _ ∧ _ = core (red (o ++ l ++ inv o))
        rw [h1, h2]
        by_cases hv : v = []
        · subst hv
          refine ⟨0, rangeL_mem.mpr ⟨by omega, ?_⟩, by simp⟩
          have : 0 < (core (red l)).length := List.length_pos_iff.mpr e
          rw [h1] at this
          omega
        · refine ⟨(u.length : Int), rangeL_mem.mpr ⟨by omega, ?_⟩, by simp⟩
          have : 0 < v.length := List.length_pos_iff.mpr hv
          rw [List.length_append]
          omega
      rw [this]
      exact k _ jf
theorem core_right_ok {l : List Int} {t : Jar} {n : Nat} {Kf : Bool → Jar → Prop} (h : Ltk 26 l) (hl : l.length ≤ 100) (hn : n + l.length + 1 < 1048576) (J : JOk n t)
    (k : ∀ t', JOk (n + l.length + 1) t' → Kf true t') : m_l_core_right l t Kf := by
  unfold m_l_core_right
  have lr := red_len l
  have lc := core_le (red l)
  refine taken_out_ok (by omega) (by omega) J fun t1 j1 => ends_off_ok ⟨⟨by omega, by omega⟩, ?_⟩
  dsimp only
  refine draw_ok (by omega) (by omega) (by omega) j1 fun r t2 r0 r1 j2 => ?_
  obtain ⟨m, hm⟩ : ∃ m : Nat, 1 + r = (m : Int) + 1 ∧ m ≤ 3 := ⟨r.toNat, by omega⟩
  obtain ⟨hm, m3⟩ := hm
  rw [hm]
  have hp : pow ((m : Int) + 1) l = rep (m + 1) l := by
    unfold pow
    rw [if_pos (by omega)]
    rfl
  have hmul : l.length * (m + 1) ≤ 100 * 4 := Nat.mul_le_mul hl (by omega)
  have hmul2 : (core (red l)).length * (m + 1) ≤ 100 * 4 := Nat.mul_le_mul (by omega) (by omega)
  have na : ((m : Int) + 1).natAbs = m + 1 := rfl
  have nt : ((m : Int) + 1).toNat = m + 1 := rfl
  refine init_ok h (by omega) (W_times_ok h (by rw [na]; omega) (by omega) (by omega) ?_)
  rw [hp]
  refine W_short_ok (ltk_rep _ h) (by rw [rep_len, Nat.mul_comm]; omega) ⟨⟨by omega, by omega, by rw [nt]; omega⟩, ?_⟩
  obtain ⟨p, e1, e2⟩ := red_power (l := l) (fun x hx => (h x hx).1) m
  have elen := congrArg List.length e1
  simp [inv_len] at elen
  have hend : ((((red l).length : Int) - ((core (red l)).length : Int)).fdiv 2) = (p.length : Int) := by
    have : ((red l).length : Int) - ((core (red l)).length : Int) = 2 * (p.length : Int) := by omega
    rw [this, Int.mul_fdiv_cancel_left _ (by omega)]
  rw [hend, pyCut_take (by omega), pyCut_drop (by omega)]
  have ep : pyRep (core (red l)) ((m : Int) + 1) = rep (m + 1) (core (red l)) := rfl
  rw [ep]
  have t1' : ((p.length : Int)).toNat = p.length := by omega
  have t2' : (((red l).length : Int) - (p.length : Int)).toNat = (p ++ core (red l)).length := by
    rw [List.length_append]; omega
  have c1 : (red l).take p.length = p := by
    conv => lhs; rw [e1]
    rw [List.append_assoc, List.take_left]
  have c2 : (red l).drop (p ++ core (red l)).length = inv p := by
    conv => lhs; arg 2; rw [e1]
    rw [List.drop_left]
  rw [t1', t2', c1, c2]
  refine ⟨by rw [rep_len, Nat.mul_comm]; omega, by rw [List.length_append, rep_len, inv_len, Nat.mul_comm]; omega, ?_⟩
  have : decide ((mkW (red (rep (m + 1) l))).letters = p ++ rep (m + 1) (core (red l)) ++ inv p) = true := decide_eq_true e2
  rw [this]
  exact k _ (j2.mono (by omega))
end G
namespace G
open PySem L2 TL WM
theorem great_right_ok {t : Jar} {n : Nat} {Kf : Bool → Jar → Prop} (hn : n + 1000 < 1048576) (J : JOk n t) (k : ∀ t', Kf true t') : m_l_great_right t Kf := by
  unfold m_l_great_right
  refine draw_ok (by omega) (by omega) (by omega) J fun r t1 r0 r1 j1 => ?_
  refine letters_ok (by omega) (by omega) (by omega) (by omega) (by omega) j1 fun half t2 hh lth j2 => ⟨.inl ⟨by omega, by omega⟩, ?_⟩
  refine letters_ok (by omega) (by omega) (by omega) (by omega) (by omega) j2 fun mid t3 hm ltm j3 => ⟨by omega, contrary_ok (by omega) ⟨by rw [List.length_append, inv_len]; omega, ?_⟩⟩
  have lh : Ltk 26 half := lth.mono (by omega)
  have lm : Ltk 26 mid := ltm.mono (by omega)
  have lw : Ltk 26 (half ++ mid ++ inv half) := (lh.app lm).app lh.inv
  have hw : (half ++ mid ++ inv half).length ≤ 500 := by rw [List.length_append, List.length_append, inv_len]; omega
  refine init_ok lw hw ⟨by simp, taken_out_ok (by omega) (by omega) j3 fun t4 j4 => ?_⟩
  have lrm := red_len mid
  refine ⟨by omega, contrary_ok (by omega) ⟨by rw [List.length_append, inv_len]; omega, ?_⟩⟩
  have ew : red (half ++ red mid ++ inv half) = red (half ++ mid ++ inv half) := red_congr half (inv half) (red_red mid)
  have hx : (half ++ red mid ++ inv half).length ≤ 1000 := by rw [List.length_append, List.length_append, inv_len]; omega
  generalize half ++ red mid ++ inv half = xs at ew hx
  refine mFor_inv (fun r (s : Jar × List Int) => WM.Rd s.2 ∧ red (s.2 ++ r) = red xs ∧ s.2.length + r.length ≤ xs.length) (by exact ⟨trivial, rfl, by simp⟩) (fun x r s K ⟨h1, h2, h3⟩ hk => ?_) (fun s ⟨h1, h2, h3⟩ => ?_)
  · simp at h3
    have st := pile_step h1 h2
    have push : (∀ v, s.2.getLast? = some v → v ≠ -x) → s.2.length ≤ 1000000 ∧ K (s.1, s.2 ++ [x]) := fun hv => ⟨by omega, hk _ ⟨(st.2 hv).1, (st.2 hv).2, by simp; omega⟩⟩
    dsimp only [mB]
    split
    · rename_i hne
      have hne : s.2 ≠ [] := by
        intro z; rw [z] at hne; simp at hne
      refine ⟨s.2.getLast hne, by rw [pyAt_last, List.getLast?_eq_some_getLast hne], ?_⟩
      unfold mIf
      split
      · rename_i e
        have e := of_decide_eq_true e
        have hg : s.2.getLast? = some (s.2.getLast hne) := List.getLast?_eq_some_getLast hne
        refine ⟨s.2.getLast hne, by rw [← List.getLast?_eq_getElem?, hg], hk _ ⟨(st.1 ⟨_, hg, e⟩).1, (st.1 ⟨_, hg, e⟩).2, by simp; omega⟩⟩
      · rename_i e
        have e : ¬ s.2.getLast hne = -x := fun z => e (decide_eq_true z)
        exact push fun v hv => by
          rw [List.getLast?_eq_some_getLast hne] at hv
          cases hv
          exact e
    · rename_i hne
      have hne : s.2 = [] := by
        cases q : s.2 with
        | nil => rfl
        | cons a b => rw [q] at hne; simp at hne
      unfold mIf
      rw [if_neg (by simp)]
      exact push fun v hv => by rw [hne] at hv; cases hv
  · rw [List.append_nil] at h2
    have es : red (half ++ mid ++ inv half) = s.2 := by rw [← ew, ← h2, red_of h1]
    refine mB_of (fun b _ => b = true) (fun K hK => ?_) (fun b s1 hb => by rw [hb]; exact k _)
    refine W_short_ok lw hw ?_
    have es' : decide ((mkW (red (half ++ mid ++ inv half))).letters = s.2) = true := decide_eq_true es
    rw [if_pos es']
    refine W_round_ok lw hw (ends_off_ok (hK _ _ ?_))
    rw [es]
    exact decide_eq_true rfl
theorem law_true {ns : List Int} (hl : ns.length ≤ 63) : m_law ns (fun r => r = true) := by
  unfold m_law m_l_jar
  rw [pyCut_take (by omega)]
  refine ⟨by rw [List.length_take]; omega, mMap_det id (fun _ _ _ h => h) ⟨⟨by omega, by omega⟩, ?_⟩⟩
  have h4 : (rangeL 0 4).length = 4 := by rw [rangeL_len]; rfl
  refine mFor_n (fun i s => JOk (1000 * i) s) (by exact ⟨by show (0 : Int) ≤ 0; omega, by show (0 : Int) ≤ _; omega⟩) (fun i x s K hi _ j0 hk => ?_) (fun s j => great_right_ok (by rw [h4]; omega) j fun _ => rfl)
  rw [h4] at hi
  refine draw_ok (by omega) (by omega) (by omega) j0 fun r t1 r0 r1 j1 => ?_
  dsimp only
  refine ⟨by simp, pick_ok (by simp) (by simp) (by omega) j1 fun c t2 hc j2 => ?_⟩
  have hc : 0 ≤ c ∧ c ≤ 30 := by
    simp only [List.mem_cons, List.not_mem_nil, or_false] at hc
    omega
  have k0 : 0 < 1 + r := by omega
  have k1 : 1 + r ≤ 26 := by omega
  refine letters_ok hc.1 (by omega) k0 k1 (by omega) j2 fun l0 t3 hl0 lt0 j3 => ?_
  refine draw_ok (by omega) (by omega) (by omega) j3 fun d t4 d0 d1 j4 => ?_
  have hl0 : l0.length ≤ 30 := by omega
  have j4 := j4.mono (m := 1000 * i + 100) (by omega)
  clear j3 j2 j1 j0
  refine mIf_of (fun s => JOk (1000 * i + 200) s.1 ∧ s.2.length ≤ 40 ∧ Ltk (1 + r) s.2) (fun _ K hK => ?_) (fun _ K hK => hK _ ⟨j4.mono (by omega), by show l0.length ≤ 40; omega, lt0⟩) ?_
  · refine draw_ok (by omega) (by omega) (by omega) j4 fun e t5 e0 e1 j5 => ?_
    refine put_in_ok (by omega) (by omega) k0 k1 (by omega) lt0 (by omega) j5 fun l1 t6 hl1 lt1 _ j6 => ?_
    exact hK _ ⟨j6.mono (by omega), by show l1.length ≤ 40; omega, lt1⟩
  clear j4 hl0 lt0
  rintro ⟨t, l⟩ ⟨j, hl, lt⟩
  dsimp only at j hl lt ⊢
  refine draw_ok (by omega) (by omega) (by omega) j fun x1 t1 x10 x11 j1 => ?_
  refine mIf_of (fun s => JOk (1000 * i + 250) s.1 ∧ s.2.length ≤ 50 ∧ Ltk (1 + r) s.2) (fun _ K hK => ?_) (fun _ K hK => hK _ ⟨j1.mono (by omega), by show l.length ≤ 50; omega, lt⟩) ?_
  · refine draw_ok (by omega) (by omega) (by omega) j1 fun x2 t2 x20 x21 j2 => ?_
    refine letters_ok (by omega) (by omega) k0 k1 (by omega) j2 fun a t3 ha la j3 => ⟨by omega, contrary_ok (by omega) ⟨by rw [List.length_append, inv_len]; omega, ?_⟩⟩
    exact hK _ ⟨j3.mono (by omega), by show (a ++ l ++ inv a).length ≤ 50; rw [List.length_append, List.length_append, inv_len]; omega, (la.app lt).app la.inv⟩
  clear j1 j hl lt
  rintro ⟨t, l⟩ ⟨j, hl, lt⟩
  dsimp only at j hl lt ⊢
  refine draw_ok (by omega) (by omega) (by omega) j fun x1 t1 x10 x11 j1 => ?_
  refine letters_ok x10 (by omega) k0 k1 (by omega) j1 fun o t2 ho lo j2 => ?_
  refine draw_ok (by omega) (by omega) (by omega) j2 fun x2 t3 _ _ j3 => ?_
  have ho : o.length ≤ 7 := by omega
  have j3 := j3.mono (m := 1000 * i + 300) (by omega)
  clear j1 j2 j
  refine mIf_of (fun s => JOk (1000 * i + 300) s.1 ∧ (s.2.1.length ≤ 50 ∧ Ltk (1 + r) s.2.1) ∧ s.2.2.length ≤ 50 ∧ Ltk (1 + r) s.2.2) (fun _ K hK => ?_) (fun _ K hK => hK _ ⟨j3, ⟨hl, lt⟩, by show o.length ≤ 50; omega, lo⟩) ?_
  · have hd : 0 ≤ (l.length : Int).fdiv 2 := by
      rw [Int.fdiv_eq_ediv_of_nonneg _ (by omega)]
      omega
    rw [pyCut_drop hd]
    have e1 : 2 * ((l.drop ((l.length : Int).fdiv 2).toNat).length) ≤ 51 := by
      rw [List.length_drop]
      rw [Int.fdiv_eq_ediv_of_nonneg _ (by omega)]
      omega
    have e2 : Ltk (1 + r) (l.drop ((l.length : Int).fdiv 2).toNat) := lt.sub fun x hx => List.mem_of_mem_drop hx
    generalize l.drop ((l.length : Int).fdiv 2).toNat = q at e1 e2
    refine ⟨⟨by omega, by omega⟩, contrary_ok (by omega) ⟨by rw [inv_len]; omega, ?_⟩⟩
    exact hK _ ⟨j3, ⟨hl, lt⟩, by show (inv q ++ o).length ≤ 50; rw [List.length_append, inv_len]; omega, e2.inv.app lo⟩
  clear j3 hl lt ho lo
  rintro ⟨t, l, o⟩ ⟨j, ⟨h1, l1⟩, h2, l2⟩
  dsimp only at j h1 l1 h2 l2 ⊢
  refine mB_of (fun b t' => b = false ∧ JOk (1000 * (i + 1)) t'.1) (fun K hK => ?_) ?_
  · refine short_right_ok (l1.mono k1) (by omega) (by omega) j fun t1 j1 => ?_
    rw [if_neg (by simp)]
    refine behind_right_ok (l1.mono k1) (l2.mono k1) (by omega) (by omega) (by omega) j1 fun t2 j2 => ?_
    rw [if_neg (by simp)]
    exact core_right_ok (l1.mono k1) (by omega) (by omega) j2 fun t3 j3 => hK _ _ ⟨rfl, j3.mono (by omega)⟩
  · rintro b t' ⟨rfl, j'⟩
    rw [if_neg (by simp)]
    exact hk _ j'
end G
namespace G
open PySem L2 TL WM
theorem mk_T {K : PySem.W.Frag} {h : Heap} {mg : Str → Option Value} (X : K.In h) (G : h.Ns mainGlobals mg)
    {C_Word f_l_jar f_l_draw f_l_pick f_l_letters f_l_put_in f_l_contrary f_is_listed f_is_integer f_is_within f_is_letter f_are_letters f_need_few f_are_short f_rounded_of f_Word___init__ f_l_taken_out f_shortened_of f_Word_shortened f_Word_shortened_round f_l_ends_off f_Word___eq__ f_contrary_of f_Word_contrary f_need_word f_Word_then f_l_short_right f_need_number f_Word_times f_l_behind_right f_l_core_right f_l_great_right f_law : Addr} {oc_l_jar kV_l_jar dc_l_jar pm_l_jar cd_l_jar ct_l_jar oc_l_draw kV_l_draw dc_l_draw pm_l_draw cd_l_draw ct_l_draw oc_l_pick kV_l_pick dc_l_pick pm_l_pick cd_l_pick ct_l_pick oc_l_letters kV_l_letters dc_l_letters pm_l_letters cd_l_letters ct_l_letters oc_l_put_in kV_l_put_in dc_l_put_in pm_l_put_in cd_l_put_in ct_l_put_in oc_l_contrary kV_l_contrary dc_l_contrary pm_l_contrary cd_l_contrary ct_l_contrary oc_is_listed kV_is_listed dc_is_listed pm_is_listed cd_is_listed ct_is_listed oc_is_integer kV_is_integer dc_is_integer pm_is_integer cd_is_integer ct_is_integer oc_is_within kV_is_within dc_is_within pm_is_within cd_is_within ct_is_within oc_is_letter kV_is_letter dc_is_letter pm_is_letter cd_is_letter ct_is_letter oc_are_letters kV_are_letters dc_are_letters pm_are_letters cd_are_letters ct_are_letters oc_need_few kV_need_few dc_need_few pm_need_few cd_need_few ct_need_few oc_are_short kV_are_short dc_are_short pm_are_short cd_are_short ct_are_short oc_rounded_of kV_rounded_of dc_rounded_of pm_rounded_of cd_rounded_of ct_rounded_of oc_Word___init__ kV_Word___init__ dc_Word___init__ pm_Word___init__ cd_Word___init__ ct_Word___init__ oc_l_taken_out kV_l_taken_out dc_l_taken_out pm_l_taken_out cd_l_taken_out ct_l_taken_out oc_shortened_of kV_shortened_of dc_shortened_of pm_shortened_of cd_shortened_of ct_shortened_of oc_Word_shortened kV_Word_shortened dc_Word_shortened pm_Word_shortened cd_Word_shortened ct_Word_shortened oc_Word_shortened_round kV_Word_shortened_round dc_Word_shortened_round pm_Word_shortened_round cd_Word_shortened_round ct_Word_shortened_round oc_l_ends_off kV_l_ends_off dc_l_ends_off pm_l_ends_off cd_l_ends_off ct_l_ends_off oc_Word___eq__ kV_Word___eq__ dc_Word___eq__ pm_Word___eq__ cd_Word___eq__ ct_Word___eq__ oc_contrary_of kV_contrary_of dc_contrary_of pm_contrary_of cd_contrary_of ct_contrary_of oc_Word_contrary kV_Word_contrary dc_Word_contrary pm_Word_contrary cd_Word_contrary ct_Word_contrary oc_need_word kV_need_word dc_need_word pm_need_word cd_need_word ct_need_word oc_Word_then kV_Word_then dc_Word_then pm_Word_then cd_Word_then ct_Word_then oc_l_short_right kV_l_short_right dc_l_short_right pm_l_short_right cd_l_short_right ct_l_short_right oc_need_number kV_need_number dc_need_number pm_need_number cd_need_number ct_need_number oc_Word_times kV_Word_times dc_Word_times pm_Word_times cd_Word_times ct_Word_times oc_l_behind_right kV_l_behind_right dc_l_behind_right pm_l_behind_right cd_l_behind_right ct_l_behind_right oc_l_core_right kV_l_core_right dc_l_core_right pm_l_core_right cd_l_core_right ct_l_core_right oc_l_great_right kV_l_great_right dc_l_great_right pm_l_great_right cd_l_great_right ct_l_great_right oc_law kV_law dc_law pm_law cd_law ct_law : Value} {od_l_jar an_l_jar od_l_draw an_l_draw od_l_pick an_l_pick od_l_letters an_l_letters od_l_put_in an_l_put_in od_l_contrary an_l_contrary od_is_listed an_is_listed od_is_integer an_is_integer od_is_within an_is_within od_is_letter an_is_letter od_are_letters an_are_letters od_need_few an_need_few od_are_short an_are_short od_rounded_of an_rounded_of od_Word___init__ an_Word___init__ od_l_taken_out an_l_taken_out od_shortened_of an_shortened_of od_Word_shortened an_Word_shortened od_Word_shortened_round an_Word_shortened_round od_l_ends_off an_l_ends_off od_Word___eq__ an_Word___eq__ od_contrary_of an_contrary_of od_Word_contrary an_Word_contrary od_need_word an_need_word od_Word_then an_Word_then od_l_short_right an_l_short_right od_need_number an_need_number od_Word_times an_Word_times od_l_behind_right an_l_behind_right od_l_core_right an_l_core_right od_l_great_right an_l_great_right od_law an_law : Option Addr} {sl_l_jar sl_l_draw sl_l_pick sl_l_letters sl_l_put_in sl_l_contrary sl_is_listed sl_is_integer sl_is_within sl_is_letter sl_are_letters sl_need_few sl_are_short sl_rounded_of sl_Word___init__ sl_l_taken_out sl_shortened_of sl_Word_shortened sl_Word_shortened_round sl_l_ends_off sl_Word___eq__ sl_contrary_of sl_Word_contrary sl_need_word sl_Word_then sl_l_short_right sl_need_number sl_Word_times sl_l_behind_right sl_l_core_right sl_l_great_right sl_law : Array (Option Value)} {t_LAST_KIND t_MOST_LETTERS : Tok}
    (h0 : PySem.W.nsIn K mainGlobals "Word" = some (some (.ref C_Word)))
    (h1 : PySem.W.nsIn K mainGlobals "_law_jar" = some (some (.ref f_l_jar)))
    (h2 : K.lookup f_l_jar = some ⟨oc_l_jar, od_l_jar, .func (PySem.W.fnOf "_law_jar" "_law_jar" (defArgs s_l_jar) (defBody s_l_jar) (defScope s_l_jar) .none kV_l_jar dc_l_jar pm_l_jar an_l_jar cd_l_jar ct_l_jar), sl_l_jar⟩)
    (h3 : PySem.W.codeIn K cd_l_jar "_law_jar" = true)
    (h4 : PySem.W.keepIn K (.ref f_l_jar) = true)
    (h5 : PySem.W.nsIn K mainGlobals "_law_draw" = some (some (.ref f_l_draw)))
    (h6 : K.lookup f_l_draw = some ⟨oc_l_draw, od_l_draw, .func (PySem.W.fnOf "_law_draw" "_law_draw" (defArgs s_l_draw) (defBody s_l_draw) (defScope s_l_draw) .none kV_l_draw dc_l_draw pm_l_draw an_l_draw cd_l_draw ct_l_draw), sl_l_draw⟩)
    (h7 : PySem.W.codeIn K cd_l_draw "_law_draw" = true)
    (h8 : PySem.W.keepIn K (.ref f_l_draw) = true)
    (h9 : PySem.W.nsIn K mainGlobals "_law_pick" = some (some (.ref f_l_pick)))
    (h10 : K.lookup f_l_pick = some ⟨oc_l_pick, od_l_pick, .func (PySem.W.fnOf "_law_pick" "_law_pick" (defArgs s_l_pick) (defBody s_l_pick) (defScope s_l_pick) .none kV_l_pick dc_l_pick pm_l_pick an_l_pick cd_l_pick ct_l_pick), sl_l_pick⟩)
    (h11 : PySem.W.codeIn K cd_l_pick "_law_pick" = true)
    (h12 : PySem.W.keepIn K (.ref f_l_pick) = true)
    (h13 : PySem.W.nsIn K mainGlobals "_law_letters" = some (some (.ref f_l_letters)))
    (h14 : K.lookup f_l_letters = some ⟨oc_l_letters, od_l_letters, .func (PySem.W.fnOf "_law_letters" "_law_letters" (defArgs s_l_letters) (defBody s_l_letters) (defScope s_l_letters) .none kV_l_letters dc_l_letters pm_l_letters an_l_letters cd_l_letters ct_l_letters), sl_l_letters⟩)
    (h15 : PySem.W.codeIn K cd_l_letters "_law_letters" = true)
    (h16 : PySem.W.keepIn K (.ref f_l_letters) = true)
    (h17 : PySem.W.nsIn K mainGlobals "_law_put_in" = some (some (.ref f_l_put_in)))
    (h18 : K.lookup f_l_put_in = some ⟨oc_l_put_in, od_l_put_in, .func (PySem.W.fnOf "_law_put_in" "_law_put_in" (defArgs s_l_put_in) (defBody s_l_put_in) (defScope s_l_put_in) .none kV_l_put_in dc_l_put_in pm_l_put_in an_l_put_in cd_l_put_in ct_l_put_in), sl_l_put_in⟩)
    (h19 : PySem.W.codeIn K cd_l_put_in "_law_put_in" = true)
    (h20 : PySem.W.keepIn K (.ref f_l_put_in) = true)
    (h21 : PySem.W.nsIn K mainGlobals "_law_contrary" = some (some (.ref f_l_contrary)))
    (h22 : K.lookup f_l_contrary = some ⟨oc_l_contrary, od_l_contrary, .func (PySem.W.fnOf "_law_contrary" "_law_contrary" (defArgs s_l_contrary) (defBody s_l_contrary) (defScope s_l_contrary) .none kV_l_contrary dc_l_contrary pm_l_contrary an_l_contrary cd_l_contrary ct_l_contrary), sl_l_contrary⟩)
    (h23 : PySem.W.codeIn K cd_l_contrary "_law_contrary" = true)
    (h24 : PySem.W.keepIn K (.ref f_l_contrary) = true)
    (h25 : PySem.W.nsIn K mainGlobals "is_listed" = some (some (.ref f_is_listed)))
    (h26 : K.lookup f_is_listed = some ⟨oc_is_listed, od_is_listed, .func (PySem.W.fnOf "is_listed" "is_listed" (defArgs s_is_listed) (defBody s_is_listed) (defScope s_is_listed) .none kV_is_listed dc_is_listed pm_is_listed an_is_listed cd_is_listed ct_is_listed), sl_is_listed⟩)
    (h27 : PySem.W.codeIn K cd_is_listed "is_listed" = true)
    (h28 : PySem.W.keepIn K (.ref f_is_listed) = true)
    (h29 : PySem.W.nsIn K mainGlobals "is_integer" = some (some (.ref f_is_integer)))
    (h30 : K.lookup f_is_integer = some ⟨oc_is_integer, od_is_integer, .func (PySem.W.fnOf "is_integer" "is_integer" (defArgs s_is_integer) (defBody s_is_integer) (defScope s_is_integer) .none kV_is_integer dc_is_integer pm_is_integer an_is_integer cd_is_integer ct_is_integer), sl_is_integer⟩)
    (h31 : PySem.W.codeIn K cd_is_integer "is_integer" = true)
    (h32 : PySem.W.keepIn K (.ref f_is_integer) = true)
    (h33 : PySem.W.nsIn K mainGlobals "is_within" = some (some (.ref f_is_within)))
    (h34 : K.lookup f_is_within = some ⟨oc_is_within, od_is_within, .func (PySem.W.fnOf "is_within" "is_within" (defArgs s_is_within) (defBody s_is_within) (defScope s_is_within) .none kV_is_within dc_is_within pm_is_within an_is_within cd_is_within ct_is_within), sl_is_within⟩)
    (h35 : PySem.W.codeIn K cd_is_within "is_within" = true)
    (h36 : PySem.W.keepIn K (.ref f_is_within) = true)
    (h37 : PySem.W.nsIn K mainGlobals "is_letter" = some (some (.ref f_is_letter)))
    (h38 : K.lookup f_is_letter = some ⟨oc_is_letter, od_is_letter, .func (PySem.W.fnOf "is_letter" "is_letter" (defArgs s_is_letter) (defBody s_is_letter) (defScope s_is_letter) .none kV_is_letter dc_is_letter pm_is_letter an_is_letter cd_is_letter ct_is_letter), sl_is_letter⟩)
    (h39 : PySem.W.codeIn K cd_is_letter "is_letter" = true)
    (h40 : PySem.W.keepIn K (.ref f_is_letter) = true)
    (h41 : PySem.W.nsIn K mainGlobals "are_letters" = some (some (.ref f_are_letters)))
    (h42 : K.lookup f_are_letters = some ⟨oc_are_letters, od_are_letters, .func (PySem.W.fnOf "are_letters" "are_letters" (defArgs s_are_letters) (defBody s_are_letters) (defScope s_are_letters) .none kV_are_letters dc_are_letters pm_are_letters an_are_letters cd_are_letters ct_are_letters), sl_are_letters⟩)
    (h43 : PySem.W.codeIn K cd_are_letters "are_letters" = true)
    (h44 : PySem.W.keepIn K (.ref f_are_letters) = true)
    (h45 : PySem.W.nsIn K mainGlobals "need_few" = some (some (.ref f_need_few)))
    (h46 : K.lookup f_need_few = some ⟨oc_need_few, od_need_few, .func (PySem.W.fnOf "need_few" "need_few" (defArgs s_need_few) (defBody s_need_few) (defScope s_need_few) .none kV_need_few dc_need_few pm_need_few an_need_few cd_need_few ct_need_few), sl_need_few⟩)
    (h47 : PySem.W.codeIn K cd_need_few "need_few" = true)
    (h48 : PySem.W.keepIn K (.ref f_need_few) = true)
    (h49 : PySem.W.nsIn K mainGlobals "are_short" = some (some (.ref f_are_short)))
    (h50 : K.lookup f_are_short = some ⟨oc_are_short, od_are_short, .func (PySem.W.fnOf "are_short" "are_short" (defArgs s_are_short) (defBody s_are_short) (defScope s_are_short) .none kV_are_short dc_are_short pm_are_short an_are_short cd_are_short ct_are_short), sl_are_short⟩)
    (h51 : PySem.W.codeIn K cd_are_short "are_short" = true)
    (h52 : PySem.W.keepIn K (.ref f_are_short) = true)
    (h53 : PySem.W.nsIn K mainGlobals "rounded_of" = some (some (.ref f_rounded_of)))
    (h54 : K.lookup f_rounded_of = some ⟨oc_rounded_of, od_rounded_of, .func (PySem.W.fnOf "rounded_of" "rounded_of" (defArgs s_rounded_of) (defBody s_rounded_of) (defScope s_rounded_of) .none kV_rounded_of dc_rounded_of pm_rounded_of an_rounded_of cd_rounded_of ct_rounded_of), sl_rounded_of⟩)
    (h55 : PySem.W.codeIn K cd_rounded_of "rounded_of" = true)
    (h56 : PySem.W.keepIn K (.ref f_rounded_of) = true)
    (h57 : PySem.W.findIn K (.ref C_Word) "__init__" = some (some (.ref f_Word___init__)))
    (h58 : PySem.W.isFn K (.ref f_Word___init__) = true)
    (h59 : K.lookup f_Word___init__ = some ⟨oc_Word___init__, od_Word___init__, .func (PySem.W.fnOf "__init__" "Word.__init__" (defArgs s_Word___init__) (defBody s_Word___init__) (defScope s_Word___init__) .none kV_Word___init__ dc_Word___init__ pm_Word___init__ an_Word___init__ cd_Word___init__ ct_Word___init__), sl_Word___init__⟩)
    (h60 : PySem.W.codeIn K cd_Word___init__ "Word.__init__" = true)
    (h61 : PySem.W.keepIn K (.ref f_Word___init__) = true)
    (h62 : PySem.W.nsIn K mainGlobals "_law_taken_out" = some (some (.ref f_l_taken_out)))
    (h63 : K.lookup f_l_taken_out = some ⟨oc_l_taken_out, od_l_taken_out, .func (PySem.W.fnOf "_law_taken_out" "_law_taken_out" (defArgs s_l_taken_out) (defBody s_l_taken_out) (defScope s_l_taken_out) .none kV_l_taken_out dc_l_taken_out pm_l_taken_out an_l_taken_out cd_l_taken_out ct_l_taken_out), sl_l_taken_out⟩)
    (h64 : PySem.W.codeIn K cd_l_taken_out "_law_taken_out" = true)
    (h65 : PySem.W.keepIn K (.ref f_l_taken_out) = true)
    (h66 : PySem.W.nsIn K mainGlobals "shortened_of" = some (some (.ref f_shortened_of)))
    (h67 : K.lookup f_shortened_of = some ⟨oc_shortened_of, od_shortened_of, .func (PySem.W.fnOf "shortened_of" "shortened_of" (defArgs s_shortened_of) (defBody s_shortened_of) (defScope s_shortened_of) .none kV_shortened_of dc_shortened_of pm_shortened_of an_shortened_of cd_shortened_of ct_shortened_of), sl_shortened_of⟩)
    (h68 : PySem.W.codeIn K cd_shortened_of "shortened_of" = true)
    (h69 : PySem.W.keepIn K (.ref f_shortened_of) = true)
    (h70 : PySem.W.findIn K (.ref C_Word) "shortened" = some (some (.ref f_Word_shortened)))
    (h71 : PySem.W.isFn K (.ref f_Word_shortened) = true)
    (h72 : K.lookup f_Word_shortened = some ⟨oc_Word_shortened, od_Word_shortened, .func (PySem.W.fnOf "shortened" "Word.shortened" (defArgs s_Word_shortened) (defBody s_Word_shortened) (defScope s_Word_shortened) .none kV_Word_shortened dc_Word_shortened pm_Word_shortened an_Word_shortened cd_Word_shortened ct_Word_shortened), sl_Word_shortened⟩)
    (h73 : PySem.W.codeIn K cd_Word_shortened "Word.shortened" = true)
    (h74 : PySem.W.keepIn K (.ref f_Word_shortened) = true)
    (h75 : PySem.W.findIn K (.ref C_Word) "shortened_round" = some (some (.ref f_Word_shortened_round)))
    (h76 : PySem.W.isFn K (.ref f_Word_shortened_round) = true)
    (h77 : K.lookup f_Word_shortened_round = some ⟨oc_Word_shortened_round, od_Word_shortened_round, .func (PySem.W.fnOf "shortened_round" "Word.shortened_round" (defArgs s_Word_shortened_round) (defBody s_Word_shortened_round) (defScope s_Word_shortened_round) .none kV_Word_shortened_round dc_Word_shortened_round pm_Word_shortened_round an_Word_shortened_round cd_Word_shortened_round ct_Word_shortened_round), sl_Word_shortened_round⟩)
    (h78 : PySem.W.codeIn K cd_Word_shortened_round "Word.shortened_round" = true)
    (h79 : PySem.W.keepIn K (.ref f_Word_shortened_round) = true)
    (h80 : PySem.W.nsIn K mainGlobals "_law_ends_off" = some (some (.ref f_l_ends_off)))
    (h81 : K.lookup f_l_ends_off = some ⟨oc_l_ends_off, od_l_ends_off, .func (PySem.W.fnOf "_law_ends_off" "_law_ends_off" (defArgs s_l_ends_off) (defBody s_l_ends_off) (defScope s_l_ends_off) .none kV_l_ends_off dc_l_ends_off pm_l_ends_off an_l_ends_off cd_l_ends_off ct_l_ends_off), sl_l_ends_off⟩)
    (h82 : PySem.W.codeIn K cd_l_ends_off "_law_ends_off" = true)
    (h83 : PySem.W.keepIn K (.ref f_l_ends_off) = true)
    (h84 : PySem.W.findIn K (.ref C_Word) "__eq__" = some (some (.ref f_Word___eq__)))
    (h85 : PySem.W.isFn K (.ref f_Word___eq__) = true)
    (h86 : K.lookup f_Word___eq__ = some ⟨oc_Word___eq__, od_Word___eq__, .func (PySem.W.fnOf "__eq__" "Word.__eq__" (defArgs s_Word___eq__) (defBody s_Word___eq__) (defScope s_Word___eq__) .none kV_Word___eq__ dc_Word___eq__ pm_Word___eq__ an_Word___eq__ cd_Word___eq__ ct_Word___eq__), sl_Word___eq__⟩)
    (h87 : PySem.W.codeIn K cd_Word___eq__ "Word.__eq__" = true)
    (h88 : PySem.W.keepIn K (.ref f_Word___eq__) = true)
    (h89 : PySem.W.nsIn K mainGlobals "contrary_of" = some (some (.ref f_contrary_of)))
    (h90 : K.lookup f_contrary_of = some ⟨oc_contrary_of, od_contrary_of, .func (PySem.W.fnOf "contrary_of" "contrary_of" (defArgs s_contrary_of) (defBody s_contrary_of) (defScope s_contrary_of) .none kV_contrary_of dc_contrary_of pm_contrary_of an_contrary_of cd_contrary_of ct_contrary_of), sl_contrary_of⟩)
    (h91 : PySem.W.codeIn K cd_contrary_of "contrary_of" = true)
    (h92 : PySem.W.keepIn K (.ref f_contrary_of) = true)
    (h93 : PySem.W.findIn K (.ref C_Word) "contrary" = some (some (.ref f_Word_contrary)))
    (h94 : PySem.W.isFn K (.ref f_Word_contrary) = true)
    (h95 : K.lookup f_Word_contrary = some ⟨oc_Word_contrary, od_Word_contrary, .func (PySem.W.fnOf "contrary" "Word.contrary" (defArgs s_Word_contrary) (defBody s_Word_contrary) (defScope s_Word_contrary) .none kV_Word_contrary dc_Word_contrary pm_Word_contrary an_Word_contrary cd_Word_contrary ct_Word_contrary), sl_Word_contrary⟩)
    (h96 : PySem.W.codeIn K cd_Word_contrary "Word.contrary" = true)
    (h97 : PySem.W.keepIn K (.ref f_Word_contrary) = true)
    (h98 : PySem.W.nsIn K mainGlobals "need_word" = some (some (.ref f_need_word)))
    (h99 : K.lookup f_need_word = some ⟨oc_need_word, od_need_word, .func (PySem.W.fnOf "need_word" "need_word" (defArgs s_need_word) (defBody s_need_word) (defScope s_need_word) .none kV_need_word dc_need_word pm_need_word an_need_word cd_need_word ct_need_word), sl_need_word⟩)
    (h100 : PySem.W.codeIn K cd_need_word "need_word" = true)
    (h101 : PySem.W.keepIn K (.ref f_need_word) = true)
    (h102 : PySem.W.findIn K (.ref C_Word) "then" = some (some (.ref f_Word_then)))
    (h103 : PySem.W.isFn K (.ref f_Word_then) = true)
    (h104 : K.lookup f_Word_then = some ⟨oc_Word_then, od_Word_then, .func (PySem.W.fnOf "then" "Word.then" (defArgs s_Word_then) (defBody s_Word_then) (defScope s_Word_then) .none kV_Word_then dc_Word_then pm_Word_then an_Word_then cd_Word_then ct_Word_then), sl_Word_then⟩)
    (h105 : PySem.W.codeIn K cd_Word_then "Word.then" = true)
    (h106 : PySem.W.keepIn K (.ref f_Word_then) = true)
    (h107 : PySem.W.nsIn K mainGlobals "_law_short_right" = some (some (.ref f_l_short_right)))
    (h108 : K.lookup f_l_short_right = some ⟨oc_l_short_right, od_l_short_right, .func (PySem.W.fnOf "_law_short_right" "_law_short_right" (defArgs s_l_short_right) (defBody s_l_short_right) (defScope s_l_short_right) .none kV_l_short_right dc_l_short_right pm_l_short_right an_l_short_right cd_l_short_right ct_l_short_right), sl_l_short_right⟩)
    (h109 : PySem.W.codeIn K cd_l_short_right "_law_short_right" = true)
    (h110 : PySem.W.keepIn K (.ref f_l_short_right) = true)
    (h111 : PySem.W.nsIn K mainGlobals "need_number" = some (some (.ref f_need_number)))
    (h112 : K.lookup f_need_number = some ⟨oc_need_number, od_need_number, .func (PySem.W.fnOf "need_number" "need_number" (defArgs s_need_number) (defBody s_need_number) (defScope s_need_number) .none kV_need_number dc_need_number pm_need_number an_need_number cd_need_number ct_need_number), sl_need_number⟩)
    (h113 : PySem.W.codeIn K cd_need_number "need_number" = true)
    (h114 : PySem.W.keepIn K (.ref f_need_number) = true)
    (h115 : PySem.W.findIn K (.ref C_Word) "times" = some (some (.ref f_Word_times)))
    (h116 : PySem.W.isFn K (.ref f_Word_times) = true)
    (h117 : K.lookup f_Word_times = some ⟨oc_Word_times, od_Word_times, .func (PySem.W.fnOf "times" "Word.times" (defArgs s_Word_times) (defBody s_Word_times) (defScope s_Word_times) .none kV_Word_times dc_Word_times pm_Word_times an_Word_times cd_Word_times ct_Word_times), sl_Word_times⟩)
    (h118 : PySem.W.codeIn K cd_Word_times "Word.times" = true)
    (h119 : PySem.W.keepIn K (.ref f_Word_times) = true)
    (h120 : PySem.W.nsIn K mainGlobals "_law_behind_right" = some (some (.ref f_l_behind_right)))
    (h121 : K.lookup f_l_behind_right = some ⟨oc_l_behind_right, od_l_behind_right, .func (PySem.W.fnOf "_law_behind_right" "_law_behind_right" (defArgs s_l_behind_right) (defBody s_l_behind_right) (defScope s_l_behind_right) .none kV_l_behind_right dc_l_behind_right pm_l_behind_right an_l_behind_right cd_l_behind_right ct_l_behind_right), sl_l_behind_right⟩)
    (h122 : PySem.W.codeIn K cd_l_behind_right "_law_behind_right" = true)
    (h123 : PySem.W.keepIn K (.ref f_l_behind_right) = true)
    (h124 : PySem.W.nsIn K mainGlobals "_law_core_right" = some (some (.ref f_l_core_right)))
    (h125 : K.lookup f_l_core_right = some ⟨oc_l_core_right, od_l_core_right, .func (PySem.W.fnOf "_law_core_right" "_law_core_right" (defArgs s_l_core_right) (defBody s_l_core_right) (defScope s_l_core_right) .none kV_l_core_right dc_l_core_right pm_l_core_right an_l_core_right cd_l_core_right ct_l_core_right), sl_l_core_right⟩)
    (h126 : PySem.W.codeIn K cd_l_core_right "_law_core_right" = true)
    (h127 : PySem.W.keepIn K (.ref f_l_core_right) = true)
    (h128 : PySem.W.nsIn K mainGlobals "_law_great_right" = some (some (.ref f_l_great_right)))
    (h129 : K.lookup f_l_great_right = some ⟨oc_l_great_right, od_l_great_right, .func (PySem.W.fnOf "_law_great_right" "_law_great_right" (defArgs s_l_great_right) (defBody s_l_great_right) (defScope s_l_great_right) .none kV_l_great_right dc_l_great_right pm_l_great_right an_l_great_right cd_l_great_right ct_l_great_right), sl_l_great_right⟩)
    (h130 : PySem.W.codeIn K cd_l_great_right "_law_great_right" = true)
    (h131 : PySem.W.keepIn K (.ref f_l_great_right) = true)
    (h132 : PySem.W.nsIn K mainGlobals "law" = some (some (.ref f_law)))
    (h133 : K.lookup f_law = some ⟨oc_law, od_law, .func (PySem.W.fnOf "law" "law" (defArgs s_law) (defBody s_law) (defScope s_law) .none kV_law dc_law pm_law an_law cd_law ct_law), sl_law⟩)
    (h134 : PySem.W.codeIn K cd_law "law" = true)
    (h135 : PySem.W.keepIn K (.ref f_law) = true)
    (h136 : PySem.W.plainGet K C_Word Str.empty = true)
    (h137 : PySem.W.hasDictIn K C_Word = true)
    (h138 : PySem.W.plainOver K C_Word = true)
    (h139 : PySem.W.findIn K (.ref C_Word) "__setattr__" = some (some (.builtin "object.__setattr__")))
    (h140 : PySem.W.makesIn K C_Word = true)
    (h141 : PySem.W.keepIn K (.ref C_Word) = true)
    (h142 : PySem.W.findIn K (.ref C_Word) "is_short" = some none)
    (h143 : PySem.W.findIn K (.ref C_Word) "is_short_round" = some none)
    (h144 : PySem.W.findIn K (.ref C_Word) "kinds" = some none)
    (h145 : PySem.W.findIn K (.ref C_Word) "length" = some none)
    (h146 : PySem.W.findIn K (.ref C_Word) "letters" = some none)
    (h147 : PySem.W.findIn K (.ref C_Word) "__class__" = some (some (.builtin "object.__class__")))
    (h148 : PySem.W.specialIn K (.builtin "object.__class__") "__get__" = some (some (.builtin "getset_descriptor.__get__")))
    (h149 : PySem.W.takesIn K (.builtin "object.__class__") = some true)
    (h150 : PySem.W.mroIn K C_Word (.type "object") = some true)
    (h151 : PySem.W.findIn K (.ref C_Word) "__ne__" = some (some (.builtin "object.__ne__")))
    (h152 : PySem.W.nsIn K mainGlobals "abs" = some none)
    (h153 : PySem.W.nsIn K mainGlobals "all" = some none)
    (h154 : PySem.W.nsIn K mainGlobals "bool" = some none)
    (h155 : PySem.W.nsIn K mainGlobals "int" = some none)
    (h156 : PySem.W.nsIn K mainGlobals "isinstance" = some none)
    (h157 : PySem.W.nsIn K mainGlobals "len" = some none)
    (h158 : PySem.W.nsIn K mainGlobals "list" = some none)
    (h159 : PySem.W.nsIn K mainGlobals "range" = some none)
    (h160 : PySem.W.nsIn K mainGlobals "sorted" = some none)
    (h161 : PySem.W.nsIn K mainGlobals "tuple" = some none)
    (h162 : PySem.W.nsIn K mainGlobals "zip" = some none)
    (h163 : PySem.W.nsIn K mainGlobals "LAST_KIND" = some (some (.int 26 t_LAST_KIND)))
    (h164 : PySem.W.nsIn K mainGlobals "MOST_LETTERS" = some (some (.int 500 t_MOST_LETTERS))) :
    ∃ (T : Tx K mg) (kV dc pm cd ct : Value) (an : Option Addr), T.d_law = PySem.W.fnOf "law" "law" (defArgs s_law) (defBody s_law) (defScope s_law) .none kV dc pm an cd ct :=
  ⟨{ C_Word := C_Word,
      g_Word := PySem.W.mg_of X G h0,
      a_l_jar := f_l_jar,
      d_l_jar := PySem.W.fnOf "_law_jar" "_law_jar" (defArgs s_l_jar) (defBody s_l_jar) (defScope s_l_jar) .none kV_l_jar dc_l_jar pm_l_jar an_l_jar cd_l_jar ct_l_jar,
      F_l_jar := (fun_mk (st := s_l_jar) h2 h3 h4),
      b_l_jar := ((fun_mk (st := s_l_jar) h2 h3 h4).binds (ps := ["_law_script"]) fun _ _ _ _ _ _ us hl => match us, hl with | [_], _ => rfl),
      g_l_jar := PySem.W.mg_of X G h1,
      a_l_draw := f_l_draw,
      d_l_draw := PySem.W.fnOf "_law_draw" "_law_draw" (defArgs s_l_draw) (defBody s_l_draw) (defScope s_l_draw) .none kV_l_draw dc_l_draw pm_l_draw an_l_draw cd_l_draw ct_l_draw,
      F_l_draw := (fun_mk (st := s_l_draw) h6 h7 h8),
      b_l_draw := ((fun_mk (st := s_l_draw) h6 h7 h8).binds (ps := ["_law_jar_here", "_law_many"]) fun _ _ _ _ _ _ us hl => match us, hl with | [_, _], _ => rfl),
      g_l_draw := PySem.W.mg_of X G h5,
      a_l_pick := f_l_pick,
      d_l_pick := PySem.W.fnOf "_law_pick" "_law_pick" (defArgs s_l_pick) (defBody s_l_pick) (defScope s_l_pick) .none kV_l_pick dc_l_pick pm_l_pick an_l_pick cd_l_pick ct_l_pick,
      F_l_pick := (fun_mk (st := s_l_pick) h10 h11 h12),
      b_l_pick := ((fun_mk (st := s_l_pick) h10 h11 h12).binds (ps := ["_law_jar_here", "_law_some"]) fun _ _ _ _ _ _ us hl => match us, hl with | [_, _], _ => rfl),
      g_l_pick := PySem.W.mg_of X G h9,
      a_l_letters := f_l_letters,
      d_l_letters := PySem.W.fnOf "_law_letters" "_law_letters" (defArgs s_l_letters) (defBody s_l_letters) (defScope s_l_letters) .none kV_l_letters dc_l_letters pm_l_letters an_l_letters cd_l_letters ct_l_letters,
      F_l_letters := (fun_mk (st := s_l_letters) h14 h15 h16),
      b_l_letters := ((fun_mk (st := s_l_letters) h14 h15 h16).binds (ps := ["_law_jar_here", "_law_many", "_law_kinds"]) fun _ _ _ _ _ _ us hl => match us, hl with | [_, _, _], _ => rfl),
      g_l_letters := PySem.W.mg_of X G h13,
      a_l_put_in := f_l_put_in,
      d_l_put_in := PySem.W.fnOf "_law_put_in" "_law_put_in" (defArgs s_l_put_in) (defBody s_l_put_in) (defScope s_l_put_in) .none kV_l_put_in dc_l_put_in pm_l_put_in an_l_put_in cd_l_put_in ct_l_put_in,
      F_l_put_in := (fun_mk (st := s_l_put_in) h18 h19 h20),
      b_l_put_in := ((fun_mk (st := s_l_put_in) h18 h19 h20).binds (ps := ["_law_jar_here", "_law_letters_here", "_law_many", "_law_kinds"]) fun _ _ _ _ _ _ us hl => match us, hl with | [_, _, _, _], _ => rfl),
      g_l_put_in := PySem.W.mg_of X G h17,
      a_l_contrary := f_l_contrary,
      d_l_contrary := PySem.W.fnOf "_law_contrary" "_law_contrary" (defArgs s_l_contrary) (defBody s_l_contrary) (defScope s_l_contrary) .none kV_l_contrary dc_l_contrary pm_l_contrary an_l_contrary cd_l_contrary ct_l_contrary,
      F_l_contrary := (fun_mk (st := s_l_contrary) h22 h23 h24),
      b_l_contrary := ((fun_mk (st := s_l_contrary) h22 h23 h24).binds (ps := ["_law_letters_here"]) fun _ _ _ _ _ _ us hl => match us, hl with | [_], _ => rfl),
      g_l_contrary := PySem.W.mg_of X G h21,
      a_is_listed := f_is_listed,
      d_is_listed := PySem.W.fnOf "is_listed" "is_listed" (defArgs s_is_listed) (defBody s_is_listed) (defScope s_is_listed) .none kV_is_listed dc_is_listed pm_is_listed an_is_listed cd_is_listed ct_is_listed,
      F_is_listed := (fun_mk (st := s_is_listed) h26 h27 h28),
      b_is_listed := ((fun_mk (st := s_is_listed) h26 h27 h28).binds (ps := ["value"]) fun _ _ _ _ _ _ us hl => match us, hl with | [_], _ => rfl),
      g_is_listed := PySem.W.mg_of X G h25,
      a_is_integer := f_is_integer,
      d_is_integer := PySem.W.fnOf "is_integer" "is_integer" (defArgs s_is_integer) (defBody s_is_integer) (defScope s_is_integer) .none kV_is_integer dc_is_integer pm_is_integer an_is_integer cd_is_integer ct_is_integer,
      F_is_integer := (fun_mk (st := s_is_integer) h30 h31 h32),
      b_is_integer := ((fun_mk (st := s_is_integer) h30 h31 h32).binds (ps := ["value"]) fun _ _ _ _ _ _ us hl => match us, hl with | [_], _ => rfl),
      g_is_integer := PySem.W.mg_of X G h29,
      a_is_within := f_is_within,
      d_is_within := PySem.W.fnOf "is_within" "is_within" (defArgs s_is_within) (defBody s_is_within) (defScope s_is_within) .none kV_is_within dc_is_within pm_is_within an_is_within cd_is_within ct_is_within,
      F_is_within := (fun_mk (st := s_is_within) h34 h35 h36),
      b_is_within := ((fun_mk (st := s_is_within) h34 h35 h36).binds (ps := ["value", "least", "most"]) fun _ _ _ _ _ _ us hl => match us, hl with | [_, _, _], _ => rfl),
      g_is_within := PySem.W.mg_of X G h33,
      a_is_letter := f_is_letter,
      d_is_letter := PySem.W.fnOf "is_letter" "is_letter" (defArgs s_is_letter) (defBody s_is_letter) (defScope s_is_letter) .none kV_is_letter dc_is_letter pm_is_letter an_is_letter cd_is_letter ct_is_letter,
      F_is_letter := (fun_mk (st := s_is_letter) h38 h39 h40),
      b_is_letter := ((fun_mk (st := s_is_letter) h38 h39 h40).binds (ps := ["value"]) fun _ _ _ _ _ _ us hl => match us, hl with | [_], _ => rfl),
      g_is_letter := PySem.W.mg_of X G h37,
      a_are_letters := f_are_letters,
      d_are_letters := PySem.W.fnOf "are_letters" "are_letters" (defArgs s_are_letters) (defBody s_are_letters) (defScope s_are_letters) .none kV_are_letters dc_are_letters pm_are_letters an_are_letters cd_are_letters ct_are_letters,
      F_are_letters := (fun_mk (st := s_are_letters) h42 h43 h44),
      b_are_letters := ((fun_mk (st := s_are_letters) h42 h43 h44).binds (ps := ["value"]) fun _ _ _ _ _ _ us hl => match us, hl with | [_], _ => rfl),
      g_are_letters := PySem.W.mg_of X G h41,
      a_need_few := f_need_few,
      d_need_few := PySem.W.fnOf "need_few" "need_few" (defArgs s_need_few) (defBody s_need_few) (defScope s_need_few) .none kV_need_few dc_need_few pm_need_few an_need_few cd_need_few ct_need_few,
      F_need_few := (fun_mk (st := s_need_few) h46 h47 h48),
      b_need_few := ((fun_mk (st := s_need_few) h46 h47 h48).binds (ps := ["many"]) fun _ _ _ _ _ _ us hl => match us, hl with | [_], _ => rfl),
      g_need_few := PySem.W.mg_of X G h45,
      a_are_short := f_are_short,
      d_are_short := PySem.W.fnOf "are_short" "are_short" (defArgs s_are_short) (defBody s_are_short) (defScope s_are_short) .none kV_are_short dc_are_short pm_are_short an_are_short cd_are_short ct_are_short,
      F_are_short := (fun_mk (st := s_are_short) h50 h51 h52),
      b_are_short := ((fun_mk (st := s_are_short) h50 h51 h52).binds (ps := ["letters"]) fun _ _ _ _ _ _ us hl => match us, hl with | [_], _ => rfl),
      g_are_short := PySem.W.mg_of X G h49,
      a_rounded_of := f_rounded_of,
      d_rounded_of := PySem.W.fnOf "rounded_of" "rounded_of" (defArgs s_rounded_of) (defBody s_rounded_of) (defScope s_rounded_of) .none kV_rounded_of dc_rounded_of pm_rounded_of an_rounded_of cd_rounded_of ct_rounded_of,
      F_rounded_of := (fun_mk (st := s_rounded_of) h54 h55 h56),
      b_rounded_of := ((fun_mk (st := s_rounded_of) h54 h55 h56).binds (ps := ["letters"]) fun _ _ _ _ _ _ us hl => match us, hl with | [_], _ => rfl),
      g_rounded_of := PySem.W.mg_of X G h53,
      a_Word___init__ := f_Word___init__,
      d_Word___init__ := PySem.W.fnOf "__init__" "Word.__init__" (defArgs s_Word___init__) (defBody s_Word___init__) (defScope s_Word___init__) .none kV_Word___init__ dc_Word___init__ pm_Word___init__ an_Word___init__ cd_Word___init__ ct_Word___init__,
      F_Word___init__ := (fun_mk (st := s_Word___init__) h59 h60 h61),
      b_Word___init__ := ((fun_mk (st := s_Word___init__) h59 h60 h61).binds (ps := ["self", "letters"]) fun _ _ _ _ _ _ us hl => match us, hl with | [_, _], _ => rfl),
      a_l_taken_out := f_l_taken_out,
      d_l_taken_out := PySem.W.fnOf "_law_taken_out" "_law_taken_out" (defArgs s_l_taken_out) (defBody s_l_taken_out) (defScope s_l_taken_out) .none kV_l_taken_out dc_l_taken_out pm_l_taken_out an_l_taken_out cd_l_taken_out ct_l_taken_out,
      F_l_taken_out := (fun_mk (st := s_l_taken_out) h63 h64 h65),
      b_l_taken_out := ((fun_mk (st := s_l_taken_out) h63 h64 h65).binds (ps := ["_law_jar_here", "_law_letters_here"]) fun _ _ _ _ _ _ us hl => match us, hl with | [_, _], _ => rfl),
      g_l_taken_out := PySem.W.mg_of X G h62,
      a_shortened_of := f_shortened_of,
      d_shortened_of := PySem.W.fnOf "shortened_of" "shortened_of" (defArgs s_shortened_of) (defBody s_shortened_of) (defScope s_shortened_of) .none kV_shortened_of dc_shortened_of pm_shortened_of an_shortened_of cd_shortened_of ct_shortened_of,
      F_shortened_of := (fun_mk (st := s_shortened_of) h67 h68 h69),
      b_shortened_of := ((fun_mk (st := s_shortened_of) h67 h68 h69).binds (ps := ["letters"]) fun _ _ _ _ _ _ us hl => match us, hl with | [_], _ => rfl),
      g_shortened_of := PySem.W.mg_of X G h66,
      a_Word_shortened := f_Word_shortened,
      d_Word_shortened := PySem.W.fnOf "shortened" "Word.shortened" (defArgs s_Word_shortened) (defBody s_Word_shortened) (defScope s_Word_shortened) .none kV_Word_shortened dc_Word_shortened pm_Word_shortened an_Word_shortened cd_Word_shortened ct_Word_shortened,
      F_Word_shortened := (fun_mk (st := s_Word_shortened) h72 h73 h74),
      b_Word_shortened := ((fun_mk (st := s_Word_shortened) h72 h73 h74).binds (ps := ["self"]) fun _ _ _ _ _ _ us hl => match us, hl with | [_], _ => rfl),
      a_Word_shortened_round := f_Word_shortened_round,
      d_Word_shortened_round := PySem.W.fnOf "shortened_round" "Word.shortened_round" (defArgs s_Word_shortened_round) (defBody s_Word_shortened_round) (defScope s_Word_shortened_round) .none kV_Word_shortened_round dc_Word_shortened_round pm_Word_shortened_round an_Word_shortened_round cd_Word_shortened_round ct_Word_shortened_round,
      F_Word_shortened_round := (fun_mk (st := s_Word_shortened_round) h77 h78 h79),
      b_Word_shortened_round := ((fun_mk (st := s_Word_shortened_round) h77 h78 h79).binds (ps := ["self"]) fun _ _ _ _ _ _ us hl => match us, hl with | [_], _ => rfl),
      a_l_ends_off := f_l_ends_off,
      d_l_ends_off := PySem.W.fnOf "_law_ends_off" "_law_ends_off" (defArgs s_l_ends_off) (defBody s_l_ends_off) (defScope s_l_ends_off) .none kV_l_ends_off dc_l_ends_off pm_l_ends_off an_l_ends_off cd_l_ends_off ct_l_ends_off,
      F_l_ends_off := (fun_mk (st := s_l_ends_off) h81 h82 h83),
      b_l_ends_off := ((fun_mk (st := s_l_ends_off) h81 h82 h83).binds (ps := ["_law_letters_here"]) fun _ _ _ _ _ _ us hl => match us, hl with | [_], _ => rfl),
      g_l_ends_off := PySem.W.mg_of X G h80,
      a_Word___eq__ := f_Word___eq__,
      d_Word___eq__ := PySem.W.fnOf "__eq__" "Word.__eq__" (defArgs s_Word___eq__) (defBody s_Word___eq__) (defScope s_Word___eq__) .none kV_Word___eq__ dc_Word___eq__ pm_Word___eq__ an_Word___eq__ cd_Word___eq__ ct_Word___eq__,
      F_Word___eq__ := (fun_mk (st := s_Word___eq__) h86 h87 h88),
      b_Word___eq__ := ((fun_mk (st := s_Word___eq__) h86 h87 h88).binds (ps := ["self", "other"]) fun _ _ _ _ _ _ us hl => match us, hl with | [_, _], _ => rfl),
      a_contrary_of := f_contrary_of,
      d_contrary_of := PySem.W.fnOf "contrary_of" "contrary_of" (defArgs s_contrary_of) (defBody s_contrary_of) (defScope s_contrary_of) .none kV_contrary_of dc_contrary_of pm_contrary_of an_contrary_of cd_contrary_of ct_contrary_of,
      F_contrary_of := (fun_mk (st := s_contrary_of) h90 h91 h92),
      b_contrary_of := ((fun_mk (st := s_contrary_of) h90 h91 h92).binds (ps := ["letters"]) fun _ _ _ _ _ _ us hl => match us, hl with | [_], _ => rfl),
      g_contrary_of := PySem.W.mg_of X G h89,
      a_Word_contrary := f_Word_contrary,
      d_Word_contrary := PySem.W.fnOf "contrary" "Word.contrary" (defArgs s_Word_contrary) (defBody s_Word_contrary) (defScope s_Word_contrary) .none kV_Word_contrary dc_Word_contrary pm_Word_contrary an_Word_contrary cd_Word_contrary ct_Word_contrary,
      F_Word_contrary := (fun_mk (st := s_Word_contrary) h95 h96 h97),
      b_Word_contrary := ((fun_mk (st := s_Word_contrary) h95 h96 h97).binds (ps := ["self"]) fun _ _ _ _ _ _ us hl => match us, hl with | [_], _ => rfl),
      a_need_word := f_need_word,
      d_need_word := PySem.W.fnOf "need_word" "need_word" (defArgs s_need_word) (defBody s_need_word) (defScope s_need_word) .none kV_need_word dc_need_word pm_need_word an_need_word cd_need_word ct_need_word,
      F_need_word := (fun_mk (st := s_need_word) h99 h100 h101),
      b_need_word := ((fun_mk (st := s_need_word) h99 h100 h101).binds (ps := ["value", "part"]) fun _ _ _ _ _ _ us hl => match us, hl with | [_, _], _ => rfl),
      g_need_word := PySem.W.mg_of X G h98,
      a_Word_then := f_Word_then,
      d_Word_then := PySem.W.fnOf "then" "Word.then" (defArgs s_Word_then) (defBody s_Word_then) (defScope s_Word_then) .none kV_Word_then dc_Word_then pm_Word_then an_Word_then cd_Word_then ct_Word_then,
      F_Word_then := (fun_mk (st := s_Word_then) h104 h105 h106),
      b_Word_then := ((fun_mk (st := s_Word_then) h104 h105 h106).binds (ps := ["self", "other"]) fun _ _ _ _ _ _ us hl => match us, hl with | [_, _], _ => rfl),
      a_l_short_right := f_l_short_right,
      d_l_short_right := PySem.W.fnOf "_law_short_right" "_law_short_right" (defArgs s_l_short_right) (defBody s_l_short_right) (defScope s_l_short_right) .none kV_l_short_right dc_l_short_right pm_l_short_right an_l_short_right cd_l_short_right ct_l_short_right,
      F_l_short_right := (fun_mk (st := s_l_short_right) h108 h109 h110),
      b_l_short_right := ((fun_mk (st := s_l_short_right) h108 h109 h110).binds (ps := ["_law_jar_here", "_law_letters_here"]) fun _ _ _ _ _ _ us hl => match us, hl with | [_, _], _ => rfl),
      g_l_short_right := PySem.W.mg_of X G h107,
      a_need_number := f_need_number,
      d_need_number := PySem.W.fnOf "need_number" "need_number" (defArgs s_need_number) (defBody s_need_number) (defScope s_need_number) .none kV_need_number dc_need_number pm_need_number an_need_number cd_need_number ct_need_number,
      F_need_number := (fun_mk (st := s_need_number) h112 h113 h114),
      b_need_number := ((fun_mk (st := s_need_number) h112 h113 h114).binds (ps := ["value", "part", "least", "most"]) fun _ _ _ _ _ _ us hl => match us, hl with | [_, _, _, _], _ => rfl),
      g_need_number := PySem.W.mg_of X G h111,
      a_Word_times := f_Word_times,
      d_Word_times := PySem.W.fnOf "times" "Word.times" (defArgs s_Word_times) (defBody s_Word_times) (defScope s_Word_times) .none kV_Word_times dc_Word_times pm_Word_times an_Word_times cd_Word_times ct_Word_times,
      F_Word_times := (fun_mk (st := s_Word_times) h117 h118 h119),
      b_Word_times := ((fun_mk (st := s_Word_times) h117 h118 h119).binds (ps := ["self", "number"]) fun _ _ _ _ _ _ us hl => match us, hl with | [_, _], _ => rfl),
      a_l_behind_right := f_l_behind_right,
      d_l_behind_right := PySem.W.fnOf "_law_behind_right" "_law_behind_right" (defArgs s_l_behind_right) (defBody s_l_behind_right) (defScope s_l_behind_right) .none kV_l_behind_right dc_l_behind_right pm_l_behind_right an_l_behind_right cd_l_behind_right ct_l_behind_right,
      F_l_behind_right := (fun_mk (st := s_l_behind_right) h121 h122 h123),
      b_l_behind_right := ((fun_mk (st := s_l_behind_right) h121 h122 h123).binds (ps := ["_law_jar_here", "_law_letters_here", "_law_others"]) fun _ _ _ _ _ _ us hl => match us, hl with | [_, _, _], _ => rfl),
      g_l_behind_right := PySem.W.mg_of X G h120,
      a_l_core_right := f_l_core_right,
      d_l_core_right := PySem.W.fnOf "_law_core_right" "_law_core_right" (defArgs s_l_core_right) (defBody s_l_core_right) (defScope s_l_core_right) .none kV_l_core_right dc_l_core_right pm_l_core_right an_l_core_right cd_l_core_right ct_l_core_right,
      F_l_core_right := (fun_mk (st := s_l_core_right) h125 h126 h127),
      b_l_core_right := ((fun_mk (st := s_l_core_right) h125 h126 h127).binds (ps := ["_law_jar_here", "_law_letters_here"]) fun _ _ _ _ _ _ us hl => match us, hl with | [_, _], _ => rfl),
      g_l_core_right := PySem.W.mg_of X G h124,
      a_l_great_right := f_l_great_right,
      d_l_great_right := PySem.W.fnOf "_law_great_right" "_law_great_right" (defArgs s_l_great_right) (defBody s_l_great_right) (defScope s_l_great_right) .none kV_l_great_right dc_l_great_right pm_l_great_right an_l_great_right cd_l_great_right ct_l_great_right,
      F_l_great_right := (fun_mk (st := s_l_great_right) h129 h130 h131),
      b_l_great_right := ((fun_mk (st := s_l_great_right) h129 h130 h131).binds (ps := ["_law_jar_here"]) fun _ _ _ _ _ _ us hl => match us, hl with | [_], _ => rfl),
      g_l_great_right := PySem.W.mg_of X G h128,
      a_law := f_law,
      d_law := PySem.W.fnOf "law" "law" (defArgs s_law) (defBody s_law) (defScope s_law) .none kV_law dc_law pm_law an_law cd_law ct_law,
      F_law := (fun_mk (st := s_law) h133 h134 h135),
      b_law := ((fun_mk (st := s_law) h133 h134 h135).binds (ps := ["_law_script"]) fun _ _ _ _ _ _ us hl => match us, hl with | [_], _ => rfl),
      g_law := PySem.W.mg_of X G h132,
      cls_Word := ⟨h136, h137, h138, h139⟩,
      mk_Word := ⟨h140, h57, h58, h141⟩,
      na_Word_is_short := h142,
      na_Word_is_short_round := h143,
      na_Word_kinds := h144,
      na_Word_length := h145,
      na_Word_letters := h146,
      me_Word_contrary := ⟨h93, h94, h97⟩,
      me_Word_shortened := ⟨h70, h71, h74⟩,
      me_Word_shortened_round := ⟨h75, h76, h79⟩,
      me_Word_then := ⟨h102, h103, h106⟩,
      me_Word_times := ⟨h115, h116, h119⟩,
      isc_Word := ⟨⟨h136, h137, h138, h139⟩, h147, h148, h149, h150, kit_self⟩,
      eq_Word := h84,
      eqf_Word := h85,
      ne_Word := h151,
      z_abs := PySem.W.mg_none_of X G h152,
      z_all := PySem.W.mg_none_of X G h153,
      z_bool := PySem.W.mg_none_of X G h154,
      z_int := PySem.W.mg_none_of X G h155,
      z_isinstance := PySem.W.mg_none_of X G h156,
      z_len := PySem.W.mg_none_of X G h157,
      z_list := PySem.W.mg_none_of X G h158,
      z_range := PySem.W.mg_none_of X G h159,
      z_sorted := PySem.W.mg_none_of X G h160,
      z_tuple := PySem.W.mg_none_of X G h161,
      z_zip := PySem.W.mg_none_of X G h162,
      c_LAST_KIND := ⟨_, PySem.W.mg_of X G h163⟩,
      c_MOST_LETTERS := ⟨_, PySem.W.mg_of X G h164⟩ }, kV_law, dc_law, pm_law, cd_law, ct_law, an_law, rfl⟩
def spLaw (K : PySem.W.Frag) : Sp := spP (acons (RList K RInt) anil) RBool (fun (y : List Int × Unit) Kf => m_law y.1 Kf)
theorem walkE {l : PySem.W.OpenLaw} {q : Program} {loose : List Str} {XP : (Str → Option Value) → Heap → Prop} {YP : World → Heap → Prop} {d : DefRec} {K : Params → PySem.W.Frag} (hn : l.most = some 63) (hdf : d.params.defaults = [])
    (hY : ∀ (w : World) (h : Heap), YP w h → (K w.params).In h) (hd : d.name = ("law" : Str))
    (F : ∀ (w : World) (mg : Str → Option Value) (h : Heap), (K w.params).In h → h.Ns mainGlobals mg → ∃ (T : Tx (K w.params) mg) (kV dc pm cd ct : Value) (an : Option Addr), T.d_law = PySem.W.fnOf "law" "law" (defArgs s_law) (defBody s_law) (defScope s_law) .none kV dc pm an cd ct) :
    PySem.W.WalkO q loose XP YP l.row.toRowW d [] (fun f vs => PySem.call f vs) :=
  L2.walk_ofB (n := 63) (k := 9) (x := "_law_script") (CX := fun _ => CX0) (sp := fun w => spLaw (K w.params)) hn (by decide) hdf ⟨rfl, by decide, by decide⟩ hY
    (fun w mg fa h KX G hmg => by
      obtain ⟨T, kV, dc, pm, cd, ct, an, e⟩ := F w mg h KX G
      have e1 : some (Value.ref fa) = some (.ref T.a_law) := by rw [← hmg, hd, T.g_law]
      cases e1
      exact ⟨T.d_law, fun s v => by rw [e]; exact .of_eq rfl, fun base _ _ => ok_law T⟩)
    (fun w H a ns hl _ _ hS => ⟨(ns, ()), H, fun r => r = true, ⟨⟨a, _, rfl, hS, AllR.ints.mpr rfl⟩, trivial⟩, Same.refl H, law_true hl, fun r v F' H' hr hv _ _ _ _ => by rw [show v = V.bl r from hv, hr]⟩)
    fun _ _ _ _ _ z => z
end G
open PySem PySem.W PyProof.Rows in
set_option maxRecDepth 100000 in
set_option maxHeartbeats 0 in
theorem PySem.Challenge.cw_handlerims_k05_shortened_in_one_way_holds : PySem.Challenge.rw_handlerims_k05_shortened_in_one_way.Holds := by
  w_on; o_law; k_head; (case hw => w_witness2)
  k_fill
  refine G.walkE (l := PySem.Challenge.rw_handlerims_k05_shortened_in_one_way) rfl rfl (fun w h Y => by first | exact PySem.W.km_in_of Y | exact PySem.W.kIn_of Y) rfl ?F
  case F =>
    intro w mg h KX GN
    refine' G.mk_T KX GN ?h0 ?h1 ?h2 ?h3 ?h4 ?h5 ?h6 ?h7 ?h8 ?h9 ?h10 ?h11 ?h12 ?h13 ?h14 ?h15 ?h16 ?h17 ?h18 ?h19 ?h20 ?h21 ?h22 ?h23 ?h24 ?h25 ?h26 ?h27 ?h28 ?h29 ?h30 ?h31 ?h32 ?h33 ?h34 ?h35 ?h36 ?h37 ?h38 ?h39 ?h40 ?h41 ?h42 ?h43 ?h44 ?h45 ?h46 ?h47 ?h48 ?h49 ?h50 ?h51 ?h52 ?h53 ?h54 ?h55 ?h56 ?h57 ?h58 ?h59 ?h60 ?h61 ?h62 ?h63 ?h64 ?h65 ?h66 ?h67 ?h68 ?h69 ?h70 ?h71 ?h72 ?h73 ?h74 ?h75 ?h76 ?h77 ?h78 ?h79 ?h80 ?h81 ?h82 ?h83 ?h84 ?h85 ?h86 ?h87 ?h88 ?h89 ?h90 ?h91 ?h92 ?h93 ?h94 ?h95 ?h96 ?h97 ?h98 ?h99 ?h100 ?h101 ?h102 ?h103 ?h104 ?h105 ?h106 ?h107 ?h108 ?h109 ?h110 ?h111 ?h112 ?h113 ?h114 ?h115 ?h116 ?h117 ?h118 ?h119 ?h120 ?h121 ?h122 ?h123 ?h124 ?h125 ?h126 ?h127 ?h128 ?h129 ?h130 ?h131 ?h132 ?h133 ?h134 ?h135 ?h136 ?h137 ?h138 ?h139 ?h140 ?h141 ?h142 ?h143 ?h144 ?h145 ?h146 ?h147 ?h148 ?h149 ?h150 ?h151 ?h152 ?h153 ?h154 ?h155 ?h156 ?h157 ?h158 ?h159 ?h160 ?h161 ?h162 ?h163 ?h164
    (case h0 => k_is)
    (case h1 => k_is)
    (case h2 => k_is)
    (case h3 => k_is)
    (case h4 => k_is)
    (case h5 => k_is)
    (case h6 => k_is)
    (case h7 => k_is)
    (case h8 => k_is)
    (case h9 => k_is)
    (case h10 => k_is)
    (case h11 => k_is)
    (case h12 => k_is)
    (case h13 => k_is)
    (case h14 => k_is)
    (case h15 => k_is)
    (case h16 => k_is)
    (case h17 => k_is)
    (case h18 => k_is)
    (case h19 => k_is)
    (case h20 => k_is)
    (case h21 => k_is)
    (case h22 => k_is)
    (case h23 => k_is)
    (case h24 => k_is)
    (case h25 => k_is)
    (case h26 => k_is)
    (case h27 => k_is)
    (case h28 => k_is)
    (case h29 => k_is)
    (case h30 => k_is)
    (case h31 => k_is)
    (case h32 => k_is)
    (case h33 => k_is)
    (case h34 => k_is)
    (case h35 => k_is)
    (case h36 => k_is)
    (case h37 => k_is)
    (case h38 => k_is)
    (case h39 => k_is)
    (case h40 => k_is)
    (case h41 => k_is)
    (case h42 => k_is)
    (case h43 => k_is)
    (case h44 => k_is)
    (case h45 => k_is)
    (case h46 => k_is)
    (case h47 => k_is)
    (case h48 => k_is)
    (case h49 => k_is)
    (case h50 => k_is)
    (case h51 => k_is)
    (case h52 => k_is)
    (case h53 => k_is)
    (case h54 => k_is)
    (case h55 => k_is)
    (case h56 => k_is)
    (case h57 => k_is)
    (case h58 => k_is)
    (case h59 => k_is)
    (case h60 => k_is)
    (case h61 => k_is)
    (case h62 => k_is)
    (case h63 => k_is)
    (case h64 => k_is)
    (case h65 => k_is)
    (case h66 => k_is)
    (case h67 => k_is)
    (case h68 => k_is)
    (case h69 => k_is)
    (case h70 => k_is)
    (case h71 => k_is)
    (case h72 => k_is)
    (case h73 => k_is)
    (case h74 => k_is)
    (case h75 => k_is)
    (case h76 => k_is)
    (case h77 => k_is)
    (case h78 => k_is)
    (case h79 => k_is)
    (case h80 => k_is)
    (case h81 => k_is)
    (case h82 => k_is)
    (case h83 => k_is)
    (case h84 => k_is)
    (case h85 => k_is)
    (case h86 => k_is)
    (case h87 => k_is)
    (case h88 => k_is)
    (case h89 => k_is)
    (case h90 => k_is)
    (case h91 => k_is)
    (case h92 => k_is)
    (case h93 => k_is)
    (case h94 => k_is)
    (case h95 => k_is)
    (case h96 => k_is)
    (case h97 => k_is)
    (case h98 => k_is)
    (case h99 => k_is)
    (case h100 => k_is)
    (case h101 => k_is)
    (case h102 => k_is)
    (case h103 => k_is)
    (case h104 => k_is)
    (case h105 => k_is)
    (case h106 => k_is)
    (case h107 => k_is)
    (case h108 => k_is)
    (case h109 => k_is)
    (case h110 => k_is)
    (case h111 => k_is)
    (case h112 => k_is)
    (case h113 => k_is)
    (case h114 => k_is)
    (case h115 => k_is)
    (case h116 => k_is)
    (case h117 => k_is)
    (case h118 => k_is)
    (case h119 => k_is)
    (case h120 => k_is)
    (case h121 => k_is)
    (case h122 => k_is)
    (case h123 => k_is)
    (case h124 => k_is)
    (case h125 => k_is)
    (case h126 => k_is)
    (case h127 => k_is)
    (case h128 => k_is)
    (case h129 => k_is)
    (case h130 => k_is)
    (case h131 => k_is)
    (case h132 => k_is)
    (case h133 => k_is)
    (case h134 => k_is)
    (case h135 => k_is)
    (case h136 => k_is)
    (case h137 => k_is)
    (case h138 => k_is)
    (case h139 => k_is)
    (case h140 => k_is)
    (case h141 => k_is)
    (case h142 => k_is)
    (case h143 => k_is)
    (case h144 => k_is)
    (case h145 => k_is)
    (case h146 => k_is)
    (case h147 => k_is)
    (case h148 => k_is)
    (case h149 => k_is)
    (case h150 => k_is)
    (case h151 => k_is)
    (case h152 => k_is)
    (case h153 => k_is)
    (case h154 => k_is)
    (case h155 => k_is)
    (case h156 => k_is)
    (case h157 => k_is)
    (case h158 => k_is)
    (case h159 => k_is)
    (case h160 => k_is)
    (case h161 => k_is)
    (case h162 => k_is)
    (case h163 => k_is)
    (case h164 => k_is)
