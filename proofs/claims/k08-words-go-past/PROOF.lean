import PyProof.Rows.All
import Wide.All
import OpenK.AllK
import Wide.FinOn
import PyProof.EqAt
import PyProof.EqKinds
import PyProof.TupleCall
import HandS.ForMost
import HandS.TupAny
import HandS.TupMul
import HandS.Wide
import HandS.TupLe
import HandS.Style
import HandS.SortInts
import HandS.Zip
import HandS.EndBits
import HandS.IsInst
import HandS.Codes
import HandS.OwnEq
import HandS.SetBool
import HandS.Strs
import HandS.Deep
import KE.DataMinMax
import HandS.MakeKwOnly
import HandS.Conv
import HandS.WordsDict
import HandS.More
import KE.RegKSuper
import HandS.Star
import HandS.MethStar
import OpenK.KOps
import HandS.Records
import PyProof.Conv_bool
import PySem.Challenge.RW_handlerims_k08_whole_words_go_past_one_a
set_option Elab.async false
set_option linter.all false
set_option maxRecDepth 100000
set_option maxHeartbeats 4000000
/-! a typed layer over the judgements: what is known of the values (frozen), what is owned (changed in place) -/
namespace TL
open PySem L2

/-- what is known of a value; it stays as the known part grows -/
structure Pd where
  p : V → Hp → Prop
  mono : ∀ v F F', Same F F' → p v F → p v F'
/-- what is known of an owned object, over the known part -/
structure Od where
  p : HO → Hp → Prop
  mono : ∀ o F F', Same F F' → p o F → p o F'
inductive Sl where
  | any
  | im (P : Pd)
  | ow (O : Od)
  | bo (j : Addr) (O : Od)

/-- the base: what is known, what stands, at the def's entry; what was lent to it -/
structure Bs where
  F : Hp
  H : Hp
  bor : Addr → Prop
  /-- what is walked around here: known all through -/
  pins : List (V × Pd)

def SlOk (B : Bs) (F H : Hp) : Sl → Option V → Prop
  | .any, _ => True
  | .im P, x => ∃ v, x = some v ∧ P.p v F
  | .ow O, x => ∃ p o, x = some (.ref p) ∧ F p = none ∧ H p = some o ∧ O.p o F ∧ B.H p = none
  | .bo j O, x => ∃ o, x = some (.ref j) ∧ F j = none ∧ H j = some o ∧ O.p o F ∧ B.bor j
def Fits (B : Bs) (F H : Hp) : List Sl → L2.St → Prop
  | [], [] => True
  | s :: Γ, x :: σ => SlOk B F H s x ∧ Fits B F H Γ σ
  | _, _ => False
/-- the owned addresses -/
def ownS : Sl → Option V → List Addr
  | .ow _, some (.ref p) => [p]
  | .bo _ _, some (.ref p) => [p]
  | _, _ => []
def owA : List Sl → L2.St → List Addr
  | s :: Γ, x :: σ => ownS s x ++ owA Γ σ
  | _, _ => []
structure At (B : Bs) (Γ : List Sl) (σ : L2.St) (F H : Hp) : Prop where
  sub : Same F H
  ext : Same B.F F
  kept : ∀ a o, B.H a = some o → ¬ B.bor a → H a = some o
  new : ∀ a o, F a = some o → B.F a = some o ∨ B.H a = none
  fit : Fits B F H Γ σ
  dis : (owA Γ σ).Nodup
  bob : ∀ a, B.bor a → F a = none ∧ (∃ o, H a = some o) ∧ ∃ o, B.H a = some o
  pin : ∀ q ∈ B.pins, q.2.p q.1 F
/-- what is known anew is new -/
def Nw (F H F' : Hp) : Prop := ∀ a o, F' a = some o → F a = some o ∨ H a = none

section
variable {B : Bs} {Γ Γ' : List Sl} {σ : L2.St} {F F' H H' : Hp}

theorem same_upd {H : Hp} {p : Addr} {o : HO} (h : H p = none) : Same H (upd H p o) := fun a u e => by
  rw [upd_ne (ne_of_none e h)]
  exact e
theorem Nw.refl : Nw F H F := fun _ _ h => .inl h
theorem Nw.no (n : Nw F H F') {a : Addr} (h1 : F a = none) {o : HO} (h2 : H a = some o) : F' a = none := by
  cases q : F' a with
  | none => rfl
  | some u =>
    rcases n a u q with z | z
    · rw [h1] at z; cases z
    · rw [h2] at z; cases z
theorem SlOk.grow {s : Sl} {x : Option V} (h : SlOk B F H s x) (e : Same F F') (eH : Same H H') (nw : Nw F H F') : SlOk B F' H' s x := by
  cases s with
  | any => trivial
  | im P => obtain ⟨v, h1, h2⟩ := h; exact ⟨v, h1, P.mono _ _ _ e h2⟩
  | ow O => obtain ⟨p, o, h1, h2, h3, h4, h5⟩ := h; exact ⟨p, o, h1, nw.no h2 h3, eH _ _ h3, O.mono _ _ _ e h4, h5⟩
  | bo j O => obtain ⟨o, h1, h2, h3, h4, h5⟩ := h; exact ⟨o, h1, nw.no h2 h3, eH _ _ h3, O.mono _ _ _ e h4, h5⟩
theorem Fits.grow : ∀ {Γ : List Sl} {σ : L2.St}, Fits B F H Γ σ → Same F F' → Same H H' → Nw F H F' → Fits B F' H' Γ σ
  | [], [], _, _, _, _ => trivial
  | _ :: _, _ :: _, h, e, eH, fr => ⟨h.1.grow e eH fr, Fits.grow h.2 e eH fr⟩
/-- both parts grow, by what is new -/
theorem At.grow (h : At B Γ σ F H) (e : Same F F') (eH : Same H H') (s : Same F' H') (nw : Nw F H F') : At B Γ σ F' H' := by
  refine ⟨s, h.ext.trans e, fun a o q n => eH _ _ (h.kept a o q n), fun a o q => ?_, h.fit.grow e eH nw, h.dis, fun a hb => ?_, fun q hq => q.2.mono _ _ _ e (h.pin q hq)⟩
  · rcases nw a o q with z | z
    · exact h.new a o z
    · right
      cases q2 : B.H a with
      | none => rfl
      | some u =>
        by_cases hb : B.bor a
        · obtain ⟨_, ⟨o2, h2⟩, _⟩ := h.bob a hb
          rw [z] at h2; cases h2
        · rw [h.kept a u q2 hb] at z; cases z
  · obtain ⟨h1, ⟨o, h2⟩, h3⟩ := h.bob a hb
    exact ⟨nw.no h1 h2, ⟨o, eH _ _ h2⟩, h3⟩
theorem At.len (h : At B Γ σ F H) : σ.length = Γ.length := by
  have go : ∀ (Γ : List Sl) (σ : L2.St), Fits B F H Γ σ → σ.length = Γ.length := by
    intro Γ
    induction Γ with
    | nil => intro σ h; cases σ with | nil => rfl | cons => exact h.elim
    | cons s Γ ih => intro σ h; cases σ with | nil => exact h.elim | cons x σ => simp [ih σ h.2]
  exact go Γ σ h.fit
theorem Fits.get : ∀ {Γ : List Sl} {σ : L2.St} {i : Nat} {s : Sl}, Fits B F H Γ σ → Γ[i]? = some s → ∃ x, σ[i]? = some x ∧ SlOk B F H s x
  | s :: Γ, x :: σ, 0, s', h, e => by simp at e; subst e; exact ⟨x, rfl, h.1⟩
  | s :: Γ, x :: σ, i + 1, s', h, e => by
    obtain ⟨y, h1, h2⟩ := Fits.get (i := i) h.2 (by simpa using e)
    exact ⟨y, by simpa using h1, h2⟩
  | [], _, i, s', h, e => by simp at e
  | s :: Γ, [], i, s', h, e => h.elim
theorem Fits.set : ∀ {Γ : List Sl} {σ : L2.St} {i : Nat} {s : Sl} {x : Option V}, Fits B F H Γ σ → SlOk B F H s x → Fits B F H (Γ.set i s) (σ.set i x)
  | [], [], _, _, _, h, _ => h
  | _ :: _, _ :: _, 0, _, _, h, k => ⟨k, h.2⟩
  | _ :: _, _ :: _, i + 1, _, _, h, k => ⟨h.1, Fits.set h.2 k⟩
  | [], _ :: _, _, _, _, h, _ => h.elim
  | _ :: _, [], _, _, _, h, _ => h.elim
theorem ownS_any {x : Option V} : ownS .any x = [] := rfl
theorem ownS_im {P : Pd} {x : Option V} : ownS (.im P) x = [] := rfl
theorem owA_set_sub : ∀ {Γ : List Sl} {σ : L2.St} {i : Nat} {s : Sl} {x : Option V}, ownS s x = [] → (owA (Γ.set i s) (σ.set i x)).Sublist (owA Γ σ)
  | [], σ, i, s, x, _ => by simp [owA]
  | s0 :: Γ, [], i, s, x, _ => by cases i <;> simp [owA]
  | s0 :: Γ, y :: σ, 0, s, x, h => by
    show (ownS s x ++ owA Γ σ).Sublist (ownS s0 y ++ owA Γ σ)
    rw [h]
    exact List.sublist_append_right _ _
  | s0 :: Γ, y :: σ, i + 1, s, x, h => by
    show (ownS s0 y ++ owA (Γ.set i s) (σ.set i x)).Sublist (ownS s0 y ++ owA Γ σ)
    exact List.Sublist.append (List.Sublist.refl _) (owA_set_sub h)
theorem mem_owA_set : ∀ {Γ : List Sl} {σ : L2.St} {i : Nat} {s : Sl} {x : Option V} {q : Addr}, q ∈ owA (Γ.set i s) (σ.set i x) → q ∈ ownS s x ∨ q ∈ owA Γ σ
  | [], σ, i, s, x, q, h => by simp [owA] at h
  | s0 :: Γ, [], i, s, x, q, h => by cases i <;> simp [owA] at h
  | s0 :: Γ, y :: σ, 0, s, x, q, h => by
    have h : q ∈ ownS s x ++ owA Γ σ := h
    rcases List.mem_append.mp h with h | h
    · exact .inl h
    · exact .inr (List.mem_append_right _ h)
  | s0 :: Γ, y :: σ, i + 1, s, x, q, h => by
    have h : q ∈ ownS s0 y ++ owA (Γ.set i s) (σ.set i x) := h
    rcases List.mem_append.mp h with h | h
    · exact .inr (List.mem_append_left _ h)
    · rcases mem_owA_set h with h | h
      · exact .inl h
      · exact .inr (List.mem_append_right _ h)
/-- an owned address stands in H, is not known, and is new or lent -/
theorem Fits.owned : ∀ {Γ : List Sl} {σ : L2.St} {q : Addr}, Fits B F H Γ σ → q ∈ owA Γ σ → F q = none ∧ (∃ o, H q = some o) ∧ (B.H q = none ∨ B.bor q)
  | [], _, q, _, h => by simp [owA] at h
  | _ :: _, [], q, _, h => by simp [owA] at h
  | s :: Γ, x :: σ, q, f, h => by
    have h : q ∈ ownS s x ++ owA Γ σ := h
    rcases List.mem_append.mp h with h | h
    · cases s with
      | any => simp [ownS] at h
      | im P => simp [ownS] at h
      | ow O =>
        obtain ⟨p, o, h1, h2, h3, h4, h5⟩ := f.1
        subst h1
        have e : q = p := by simpa [ownS] using h
        subst e
        exact ⟨h2, ⟨o, h3⟩, .inl h5⟩
      | bo j O =>
        obtain ⟨o, h1, h2, h3, h4, h5⟩ := f.1
        subst h1
        have e : q = j := by simpa [ownS] using h
        subst e
        exact ⟨h2, ⟨o, h3⟩, .inr h5⟩
    · exact Fits.owned f.2 h
theorem At.notOwn (h : At B Γ σ F H) {p : Addr} (hp : H p = none) : p ∉ owA Γ σ := fun hm => by
  obtain ⟨_, ⟨o, e⟩, _⟩ := h.fit.owned hm
  rw [hp] at e; cases e
theorem At.fresh (h : At B Γ σ F H) {p : Addr} (hp : H p = none) : F p = none ∧ B.H p = none := by
  refine ⟨?_, ?_⟩
  · cases q : F p with
    | none => rfl
    | some o => rw [h.sub _ _ q] at hp; cases hp
  · cases q : B.H p with
    | none => rfl
    | some o =>
      by_cases hb : B.bor p
      · obtain ⟨_, ⟨o, e⟩, _⟩ := h.bob p hb
        rw [hp] at e; cases e
      · rw [h.kept _ _ q hb] at hp; cases hp
/-- a new object, known from now on -/
theorem At.lay (h : At B Γ σ F H) {p : Addr} {o : HO} (hp : H p = none) : At B Γ σ (upd F p o) (upd H p o) ∧ Same F (upd F p o) := by
  have f := h.fresh hp
  refine ⟨h.grow (same_upd f.1) (same_upd hp) (fun a u e => ?_) (fun a u e => ?_), same_upd f.1⟩
  · by_cases ha : a = p
    · subst ha; rw [upd_same] at e ⊢; exact e
    · rw [upd_ne ha] at e ⊢; exact h.sub _ _ e
  · by_cases ha : a = p
    · subst ha; exact .inr hp
    · rw [upd_ne ha] at e; exact .inl e
/-- a new object, not known -/
theorem At.layH (h : At B Γ σ F H) {p : Addr} {o : HO} (hp : H p = none) : At B Γ σ F (upd H p o) :=
  h.grow (Same.refl F) (same_upd hp) (h.sub.trans (same_upd hp)) Nw.refl
theorem At.im (h : At B Γ σ F H) {i : Nat} {P : Pd} (e : Γ[i]? = some (.im P)) : ∃ v, σ[i]? = some (some v) ∧ P.p v F := by
  obtain ⟨x, h1, v, h2, h3⟩ := h.fit.get e
  exact ⟨v, h2 ▸ h1, h3⟩
theorem At.setIm (h : At B Γ σ F H) {i : Nat} {P : Pd} {v : V} (hv : P.p v F) : At B (Γ.set i (.im P)) (σ.set i (some v)) F H :=
  ⟨h.sub, h.ext, h.kept, h.new, h.fit.set ⟨v, rfl, hv⟩, h.dis.sublist (owA_set_sub rfl), h.bob, h.pin⟩
theorem At.setAny (h : At B Γ σ F H) {i : Nat} {x : Option V} : At B (Γ.set i .any) (σ.set i x) F H :=
  ⟨h.sub, h.ext, h.kept, h.new, h.fit.set trivial, h.dis.sublist (owA_set_sub rfl), h.bob, h.pin⟩
theorem nodup_set : ∀ {Γ : List Sl} {σ : L2.St} {i : Nat} {O : Od} {p : Addr}, (owA Γ σ).Nodup → p ∉ owA Γ σ → (owA (Γ.set i (.ow O)) (σ.set i (some (.ref p)))).Nodup
  | [], σ, i, O, p, h, n => by simp [owA]
  | s :: Γ, [], i, O, p, h, n => by cases i <;> simp [owA]
  | s :: Γ, x :: σ, 0, O, p, h, n => by
    show ([p] ++ owA Γ σ).Nodup
    have h : (ownS s x ++ owA Γ σ).Nodup := h
    have n : p ∉ ownS s x ++ owA Γ σ := n
    have h2 := (List.nodup_append.mp h).2.1
    exact List.nodup_cons.mpr ⟨fun z => n (List.mem_append_right _ z), h2⟩
  | s :: Γ, x :: σ, i + 1, O, p, h, n => by
    show (ownS s x ++ owA (Γ.set i (.ow O)) (σ.set i (some (.ref p)))).Nodup
    have h : (ownS s x ++ owA Γ σ).Nodup := h
    have n : p ∉ ownS s x ++ owA Γ σ := n
    obtain ⟨h1, h2, h3⟩ := List.nodup_append.mp h
    refine List.nodup_append.mpr ⟨h1, nodup_set h2 fun z => n (List.mem_append_right _ z), fun a ha b hb => ?_⟩
    rcases mem_owA_set hb with z | z
    · have e : b = p := by simpa [ownS] using z
      rintro rfl
      exact n (List.mem_append_left _ (e ▸ ha))
    · exact h3 a ha b z
theorem At.setOw (h : At B Γ σ F H) {i : Nat} {O : Od} {p : Addr} {o : HO} (f : F p = none) (hp : H p = some o) (b : B.H p = none) (n : p ∉ owA Γ σ) (ho : O.p o F) : At B (Γ.set i (.ow O)) (σ.set i (some (.ref p))) F H :=
  ⟨h.sub, h.ext, h.kept, h.new, h.fit.set ⟨p, o, rfl, f, hp, ho, b⟩, nodup_set h.dis n, h.bob, h.pin⟩

/-! ### an owned object is changed -/
theorem fits_upd {Γ : List Sl} {σ : L2.St} {p : Addr} {o : HO} (h : Fits B F H Γ σ) (n : p ∉ owA Γ σ) : Fits B F (upd H p o) Γ σ := by
  induction Γ generalizing σ with
  | nil => cases σ with | nil => trivial | cons => exact h.elim
  | cons s Γ ih =>
    cases σ with
    | nil => exact h.elim
    | cons x σ =>
      have n : p ∉ ownS s x ++ owA Γ σ := n
      refine ⟨?_, ih h.2 fun z => n (List.mem_append_right _ z)⟩
      have h1 := h.1
      cases s with
      | any => trivial
      | im P => exact h1
      | ow O =>
        obtain ⟨q, o', e1, e2, e3, e4, e5⟩ := h1
        subst e1
        have nq : q ≠ p := fun z => n (List.mem_append_left _ (by simp [ownS, z]))
        exact ⟨q, o', rfl, e2, (upd_ne nq).trans e3, e4, e5⟩
      | bo j O =>
        obtain ⟨o', e1, e2, e3, e4, e5⟩ := h1
        subst e1
        have nq : j ≠ p := fun z => n (List.mem_append_left _ (by simp [ownS, z]))
        exact ⟨o', rfl, e2, (upd_ne nq).trans e3, e4, e5⟩
theorem mem_owA_of : ∀ {Γ : List Sl} {σ : L2.St} {i : Nat} {O : Od} {p : Addr}, Γ[i]? = some (.ow O) → σ[i]? = some (some (.ref p)) → p ∈ owA Γ σ
  | [], _, _, _, _, e, _ => by simp at e
  | _ :: _, [], _, _, _, _, e => by simp at e
  | s :: Γ, x :: σ, 0, O, p, e, e2 => by
    simp at e e2
    subst e; subst e2
    exact List.mem_append_left _ (by simp [ownS])
  | s :: Γ, x :: σ, i + 1, O, p, e, e2 => List.mem_append_right _ (mem_owA_of (i := i) (by simpa using e) (by simpa using e2))
theorem fits_write : ∀ {Γ : List Sl} {σ : L2.St} {i : Nat} {O O' : Od} {p : Addr} {o : HO}, Fits B F H Γ σ → (owA Γ σ).Nodup → Γ[i]? = some (.ow O) → σ[i]? = some (some (.ref p)) → O'.p o F → Fits B F (upd H p o) (Γ.set i (.ow O')) σ
  | [], _, _, _, _, _, _, _, _, e, _, _ => by simp at e
  | s :: Γ, [], _, _, _, _, _, h, _, _, _, _ => h.elim
  | s :: Γ, x :: σ, 0, O, O', p, o, h, nd, e, e2, ho => by
    simp at e e2
    subst e; subst e2
    obtain ⟨q, o', z1, z2, z3, z4, z5⟩ := h.1
    cases z1
    have nd : ([p] ++ owA Γ σ).Nodup := nd
    exact ⟨⟨p, o, rfl, z2, upd_same, ho, z5⟩, fits_upd h.2 (List.nodup_cons.mp nd).1⟩
  | s :: Γ, x :: σ, i + 1, O, O', p, o, h, nd, e, e2, ho => by
    have nd : (ownS s x ++ owA Γ σ).Nodup := nd
    obtain ⟨n1, n2, n3⟩ := List.nodup_append.mp nd
    have e' : Γ[i]? = some (.ow O) := by simpa using e
    have e2' : σ[i]? = some (some (.ref p)) := by simpa using e2
    have hm : p ∈ owA Γ σ := mem_owA_of e' e2'
    refine ⟨?_, fits_write h.2 n2 e' e2' ho⟩
    have one : Fits B F H [s] [x] := ⟨h.1, trivial⟩
    have := fits_upd (o := o) one (p := p) (by
      show p ∉ ownS s x ++ []
      rw [List.append_nil]
      exact fun z => n3 p z p hm rfl)
    exact this.1
theorem owA_set_ow : ∀ {Γ : List Sl} {σ : L2.St} {i : Nat} {O O' : Od}, Γ[i]? = some (.ow O) → owA (Γ.set i (.ow O')) σ = owA Γ σ
  | [], _, _, _, _, e => by simp at e
  | s :: Γ, [], i, _, _, e => by cases i <;> rfl
  | s :: Γ, x :: σ, 0, O, O', e => by
    simp at e
    subst e
    show ownS _ x ++ owA Γ σ = ownS _ x ++ owA Γ σ
    cases x with
    | none => rfl
    | some v => cases v <;> rfl
  | s :: Γ, x :: σ, i + 1, O, O', e => by
    show ownS s x ++ owA (Γ.set i _) σ = ownS s x ++ owA Γ σ
    rw [owA_set_ow (by simpa using e)]
theorem At.ow (h : At B Γ σ F H) {i : Nat} {O : Od} (e : Γ[i]? = some (.ow O)) : ∃ p o, σ[i]? = some (some (.ref p)) ∧ F p = none ∧ H p = some o ∧ O.p o F ∧ B.H p = none := by
  obtain ⟨x, h1, p, o, h2, h3⟩ := h.fit.get e
  exact ⟨p, o, h2 ▸ h1, h3⟩
theorem At.write (h : At B Γ σ F H) {i : Nat} {O O' : Od} {p : Addr} {o : HO} (e : Γ[i]? = some (.ow O)) (e2 : σ[i]? = some (some (.ref p))) (ho : O'.p o F) : At B (Γ.set i (.ow O')) σ F (upd H p o) := by
  obtain ⟨q, o', z1, z2, z3, z4, z5⟩ := h.ow e
  rw [e2] at z1
  cases z1
  refine ⟨fun a u g => ?_, h.ext, fun a u g n => ?_, h.new, fits_write h.fit h.dis e e2 ho, by rw [owA_set_ow e]; exact h.dis, fun a hb => ?_, h.pin⟩
  · have na : a ≠ p := fun z => by rw [z, z2] at g; cases g
    rw [upd_ne na]; exact h.sub _ _ g
  · have na : a ≠ p := fun z => by rw [z, z5] at g; cases g
    rw [upd_ne na]; exact h.kept _ _ g n
  · obtain ⟨h1, ⟨u, h2⟩, h3⟩ := h.bob a hb
    by_cases na : a = p
    · subst na; exact ⟨h1, ⟨o, upd_same⟩, h3⟩
    · exact ⟨h1, ⟨u, (upd_ne na).trans h2⟩, h3⟩
/-! the same for what was lent -/
theorem fits_writeB : ∀ {Γ : List Sl} {σ : L2.St} {i : Nat} {O O' : Od} {j : Addr} {o : HO}, Fits B F H Γ σ → (owA Γ σ).Nodup → Γ[i]? = some (.bo j O) → O'.p o F → Fits B F (upd H j o) (Γ.set i (.bo j O')) σ ∧ j ∈ owA Γ σ
  | [], _, _, _, _, _, _, _, _, e, _ => by simp at e
  | s :: Γ, [], _, _, _, _, _, h, _, _, _ => h.elim
  | s :: Γ, x :: σ, 0, O, O', j, o, h, nd, e, ho => by
    simp at e
    subst e
    obtain ⟨o', z1, z2, z3, z4, z5⟩ := h.1
    subst z1
    have nd : ([j] ++ owA Γ σ).Nodup := nd
    exact ⟨⟨⟨o, rfl, z2, upd_same, ho, z5⟩, fits_upd h.2 (List.nodup_cons.mp nd).1⟩, List.mem_append_left _ (by simp [ownS])⟩
  | s :: Γ, x :: σ, i + 1, O, O', j, o, h, nd, e, ho => by
    have nd : (ownS s x ++ owA Γ σ).Nodup := nd
    obtain ⟨n1, n2, n3⟩ := List.nodup_append.mp nd
    obtain ⟨r1, r2⟩ := fits_writeB h.2 n2 (i := i) (by simpa using e) ho
    have one : Fits B F H [s] [x] := ⟨h.1, trivial⟩
    have := fits_upd (o := o) one (p := j) (by
      show j ∉ ownS s x ++ []
      rw [List.append_nil]
      exact fun z => n3 j z j r2 rfl)
    exact ⟨⟨this.1, r1⟩, List.mem_append_right _ r2⟩
theorem owA_set_bo : ∀ {Γ : List Sl} {σ : L2.St} {i : Nat} {O O' : Od} {j : Addr}, Γ[i]? = some (.bo j O) → owA (Γ.set i (.bo j O')) σ = owA Γ σ
  | [], _, _, _, _, _, e => by simp at e
  | s :: Γ, [], i, _, _, _, e => by cases i <;> rfl
  | s :: Γ, x :: σ, 0, O, O', j, e => by
    simp at e
    subst e
    show ownS _ x ++ owA Γ σ = ownS _ x ++ owA Γ σ
    cases x with
    | none => rfl
    | some v => cases v <;> rfl
  | s :: Γ, x :: σ, i + 1, O, O', j, e => by
    show ownS s x ++ owA (Γ.set i _) σ = ownS s x ++ owA Γ σ
    rw [owA_set_bo (by simpa using e)]
theorem At.bo (h : At B Γ σ F H) {i : Nat} {j : Addr} {O : Od} (e : Γ[i]? = some (.bo j O)) : ∃ o, σ[i]? = some (some (.ref j)) ∧ F j = none ∧ H j = some o ∧ O.p o F ∧ B.bor j := by
  obtain ⟨x, h1, o, h2, h3⟩ := h.fit.get e
  exact ⟨o, h2 ▸ h1, h3⟩
theorem At.writeB (h : At B Γ σ F H) {i : Nat} {j : Addr} {O O' : Od} {o : HO} (e : Γ[i]? = some (.bo j O)) (ho : O'.p o F) : At B (Γ.set i (.bo j O')) σ F (upd H j o) := by
  obtain ⟨o', z1, z2, z3, z4, z5⟩ := h.bo e
  refine ⟨fun a u g => ?_, h.ext, fun a u g n => ?_, h.new, (fits_writeB h.fit h.dis e ho).1, by rw [owA_set_bo e]; exact h.dis, fun a hb => ?_, h.pin⟩
  · have na : a ≠ j := fun z => by rw [z, z2] at g; cases g
    rw [upd_ne na]; exact h.sub _ _ g
  · have na : a ≠ j := fun z => n (z ▸ z5)
    rw [upd_ne na]; exact h.kept _ _ g n
  · obtain ⟨h1, ⟨u, h2⟩, h3⟩ := h.bob a hb
    by_cases na : a = j
    · subst na; exact ⟨h1, ⟨o, upd_same⟩, h3⟩
    · exact ⟨h1, ⟨u, (upd_ne na).trans h2⟩, h3⟩
/-- slots forgotten -/
inductive Le : List Sl → List Sl → Prop
  | nil : Le [] []
  | same {s Γ Γ'} : Le Γ Γ' → Le (s :: Γ) (s :: Γ')
  | drop {s Γ Γ'} : Le Γ Γ' → Le (s :: Γ) (.any :: Γ')
theorem Le.rfl' : ∀ {Γ : List Sl}, Le Γ Γ
  | [] => .nil
  | _ :: _ => .same Le.rfl'
theorem Le.fits : ∀ {Γ Γ' : List Sl} {σ : L2.St}, Le Γ Γ' → Fits B F H Γ σ → Fits B F H Γ' σ ∧ (owA Γ' σ).Sublist (owA Γ σ)
  | _, _, [], .nil, h => ⟨h, .slnil⟩
  | _, _, x :: σ, .same l, h => by
    obtain ⟨h1, h2⟩ := Le.fits l h.2
    exact ⟨⟨h.1, h1⟩, List.Sublist.append (List.Sublist.refl _) h2⟩
  | _, _, x :: σ, .drop l, h => by
    obtain ⟨h1, h2⟩ := Le.fits l h.2
    exact ⟨⟨trivial, h1⟩, by
      show ([] ++ owA _ σ).Sublist _
      exact List.Sublist.append (List.nil_sublist _) h2⟩
theorem At.le (h : At B Γ σ F H) (l : Le Γ Γ') : At B Γ' σ F H := by
  obtain ⟨h1, h2⟩ := l.fits h.fit
  exact ⟨h.sub, h.ext, h.kept, h.new, h1, h.dis.sublist h2, h.bob, h.pin⟩
/-- an address that nobody owns, standing in H, is known from now on -/
theorem fits_know {Γ : List Sl} {σ : L2.St} {p : Addr} {o : HO} (sF : Same F (upd F p o)) (h : Fits B F H Γ σ) (n : p ∉ owA Γ σ) : Fits B (upd F p o) H Γ σ := by
  induction Γ generalizing σ with
  | nil => cases σ with | nil => trivial | cons => exact h.elim
  | cons sl Γ ih =>
    cases σ with
    | nil => exact h.elim
    | cons x σ =>
      have n : p ∉ ownS sl x ++ owA Γ σ := n
      refine ⟨?_, ih h.2 fun z => n (List.mem_append_right _ z)⟩
      have h1 := h.1
      cases sl with
      | any => trivial
      | im P => obtain ⟨v, z1, z2⟩ := h1; exact ⟨v, z1, P.mono _ _ _ sF z2⟩
      | ow O =>
        obtain ⟨q, o', e1, e2, e3, e4, e5⟩ := h1
        subst e1
        have nq : q ≠ p := fun z => n (List.mem_append_left _ (by simp [ownS, z]))
        exact ⟨q, o', rfl, (upd_ne nq).trans e2, e3, O.mono _ _ _ sF e4, e5⟩
      | bo j O =>
        obtain ⟨o', e1, e2, e3, e4, e5⟩ := h1
        subst e1
        have nq : j ≠ p := fun z => n (List.mem_append_left _ (by simp [ownS, z]))
        exact ⟨o', rfl, (upd_ne nq).trans e2, e3, O.mono _ _ _ sF e4, e5⟩
theorem At.know (A : At B Γ σ F H) {p : Addr} {o : HO} (fp : F p = none) (hp : H p = some o) (bp : B.H p = none) (n : p ∉ owA Γ σ) : At B Γ σ (upd F p o) H ∧ Same F (upd F p o) := by
  have sF : Same F (upd F p o) := same_upd fp
  refine ⟨⟨fun a u g => ?_, A.ext.trans sF, A.kept, fun a u g => ?_, fits_know sF A.fit n, A.dis, fun a hb => ?_, fun q hq => q.2.mono _ _ _ sF (A.pin q hq)⟩, sF⟩
  · by_cases ha : a = p
    · subst ha; rw [upd_same] at g; cases g; exact hp
    · rw [upd_ne ha] at g; exact A.sub _ _ g
  · by_cases ha : a = p
    · subst ha; exact .inr bp
    · rw [upd_ne ha] at g; exact A.new _ _ g
  · obtain ⟨h1, h2, o3, h3⟩ := A.bob a hb
    have na : a ≠ p := fun z => by rw [z, bp] at h3; cases h3
    exact ⟨(upd_ne na).trans h1, h2, o3, h3⟩
theorem owA_any_sub : ∀ {Γ : List Sl} {σ : L2.St} {i : Nat}, (owA (Γ.set i .any) σ).Sublist (owA Γ σ)
  | [], σ, i => by simp [owA]
  | s0 :: Γ, [], i => by cases i <;> simp [owA]
  | s0 :: Γ, y :: σ, 0 => List.sublist_append_right _ _
  | s0 :: Γ, y :: σ, i + 1 => List.Sublist.append (List.Sublist.refl _) owA_any_sub
theorem Fits.forget : ∀ {Γ : List Sl} {σ : L2.St} {i : Nat}, Fits B F H Γ σ → Fits B F H (Γ.set i .any) σ
  | [], [], _, h => h
  | _ :: _, _ :: _, 0, h => ⟨trivial, h.2⟩
  | _ :: _, _ :: _, i + 1, h => ⟨h.1, Fits.forget h.2⟩
  | [], _ :: _, _, h => h.elim
  | _ :: _, [], _, h => h.elim
theorem At.forget (h : At B Γ σ F H) {i : Nat} : At B (Γ.set i .any) σ F H := ⟨h.sub, h.ext, h.kept, h.new, h.fit.forget, h.dis.sublist owA_any_sub, h.bob, h.pin⟩
theorem Fits.reset : ∀ {Γ : List Sl} {σ : L2.St} {i : Nat} {s : Sl} {x : Option V}, Fits B F H Γ σ → σ[i]? = some x → SlOk B F H s x → Fits B F H (Γ.set i s) σ
  | [], [], _, _, _, h, _, _ => h
  | _ :: _, _ :: _, 0, _, _, h, e, k => by simp at e; subst e; exact ⟨k, h.2⟩
  | _ :: _, _ :: _, i + 1, _, _, h, e, k => ⟨h.1, Fits.reset h.2 (by simpa using e) k⟩
  | [], _ :: _, _, _, _, h, _, _ => h.elim
  | _ :: _, [], _, _, _, h, _, _ => h.elim
theorem owA_reset_sub : ∀ {Γ : List Sl} {σ : L2.St} {i : Nat} {P : Pd}, (owA (Γ.set i (.im P)) σ).Sublist (owA Γ σ)
  | [], σ, i, _ => by simp [owA]
  | s0 :: Γ, [], i, _ => by cases i <;> simp [owA]
  | s0 :: Γ, y :: σ, 0, _ => List.sublist_append_right _ _
  | s0 :: Γ, y :: σ, i + 1, _ => List.Sublist.append (List.Sublist.refl _) owA_reset_sub
/-- the owned object in a slot is known from now on -/
theorem At.freeze (A : At B Γ σ F H) {i : Nat} {O : Od} {P : Pd} (e : Γ[i]? = some (.ow O)) (hP : ∀ p o F', O.p o F' → F' p = some o → P.p (.ref p) F') : ∃ F', At B (Γ.set i (.im P)) σ F' H ∧ Same F F' := by
  obtain ⟨p, o, h1, h2, h3, h4, h5⟩ := A.ow e
  have np : p ∉ owA (Γ.set i .any) σ := by
    have go : ∀ {Γ : List Sl} {σ : L2.St} {i : Nat}, (owA Γ σ).Nodup → Γ[i]? = some (.ow O) → σ[i]? = some (some (.ref p)) → p ∉ owA (Γ.set i .any) σ := by
      intro Γ
      induction Γ with
      | nil => intro σ i _ e; simp at e
      | cons s Γ ih =>
        intro σ i nd e e2
        cases σ with
        | nil => simp at e2
        | cons x σ =>
          have nd : (ownS s x ++ owA Γ σ).Nodup := nd
          obtain ⟨n1, n2, n3⟩ := List.nodup_append.mp nd
          cases i with
          | zero =>
            simp at e e2
            subst e; subst e2
            intro z
            have z : p ∈ owA Γ σ := z
            exact n3 p (by simp [ownS]) p z rfl
          | succ i =>
            intro z
            have z : p ∈ ownS s x ++ owA (Γ.set i .any) σ := z
            have e' : Γ[i]? = some (.ow O) := by simpa using e
            have e2' : σ[i]? = some (some (.ref p)) := by simpa using e2
            rcases List.mem_append.mp z with z | z
            · exact n3 p z p (mem_owA_of e' e2') rfl
            · exact ih n2 e' e2' z
    exact go A.dis e h1
  obtain ⟨A2, sF⟩ := (A.forget (i := i)).know (o := o) h2 h3 h5 np
  refine ⟨upd F p o, ?_, sF⟩
  have f2 := A2.fit.reset (i := i) (s := .im P) h1 ⟨.ref p, rfl, hP p o _ (O.mono _ _ _ sF h4) upd_same⟩
  rw [List.set_set] at f2
  exact ⟨A2.sub, A2.ext, A2.kept, A2.new, f2, A.dis.sublist owA_reset_sub, A2.bob, A2.pin⟩
theorem Fits.base {B B' : Bs} (e1 : B'.H = B.H) (e2 : B'.bor = B.bor) : ∀ {Γ : List Sl} {σ : L2.St}, Fits B F H Γ σ → Fits B' F H Γ σ
  | [], [], _ => trivial
  | s :: Γ, x :: σ, h => by
    refine ⟨?_, Fits.base e1 e2 h.2⟩
    have h1 := h.1
    cases s with
    | any => trivial
    | im P => exact h1
    | ow O => obtain ⟨p, o, z1, z2, z3, z4, z5⟩ := h1; exact ⟨p, o, z1, z2, z3, z4, by rw [e1]; exact z5⟩
    | bo j O => obtain ⟨o, z1, z2, z3, z4, z5⟩ := h1; exact ⟨o, z1, z2, z3, z4, by rw [e2]; exact z5⟩
  | [], _ :: _, h => h.elim
  | _ :: _, [], h => h.elim
theorem At.pinned (h : At B Γ σ F H) {v : V} {P : Pd} (hv : P.p v F) : At { B with pins := (v, P) :: B.pins } Γ σ F H :=
  ⟨h.sub, h.ext, h.kept, h.new, Fits.base (by rfl) (by rfl) h.fit, h.dis, h.bob, fun q hq => by
    rcases List.mem_cons.mp hq with z | z
    · subst z; exact hv
    · exact h.pin q z⟩
theorem At.unpinned {v : V} {P : Pd} (h : At { B with pins := (v, P) :: B.pins } Γ σ F H) : At B Γ σ F H ∧ P.p v F :=
  ⟨⟨h.sub, h.ext, h.kept, h.new, Fits.base (by rfl) (by rfl) h.fit, h.dis, h.bob, fun q hq => h.pin q (List.mem_cons_of_mem _ hq)⟩, h.pin (v, P) List.mem_cons_self⟩
end
end TL
namespace TL
open PySem L2

/-! ### typed values -/
def RInt (x : Int) : Pd := ⟨fun v _ => v = .int x, fun _ _ _ _ h => h⟩
def RBool (x : Bool) : Pd := ⟨fun v _ => v = .bl x, fun _ _ _ _ h => h⟩
def RStr (x : Str) : Pd := ⟨fun v _ => v = .str x, fun _ _ _ _ h => h⟩
def RNon (_ : Unit) : Pd := ⟨fun v _ => v = .non, fun _ _ _ _ h => h⟩
def ROpt {α : Type} (R : α → Pd) (x : Option α) : Pd := ⟨fun v F => match x with | none => v = .non | some y => v ≠ .non ∧ (R y).p v F, fun v F F' e h => by
  cases x with
  | none => exact h
  | some y => exact ⟨h.1, (R y).mono _ _ _ e h.2⟩⟩
def AllR {α : Type} (R : α → Pd) : List α → List V → Hp → Prop
  | [], [], _ => True
  | x :: xs, v :: vs, F => (R x).p v F ∧ AllR R xs vs F
  | _, _, _ => False
section
variable {α β : Type} {R : α → Pd} {F F' : Hp}
theorem AllR.mono (e : Same F F') : ∀ {xs : List α} {vs : List V}, AllR R xs vs F → AllR R xs vs F'
  | [], [], _ => trivial
  | _ :: _, _ :: _, h => ⟨(R _).mono _ _ _ e h.1, AllR.mono e h.2⟩
theorem AllR.len : ∀ {xs : List α} {vs : List V}, AllR R xs vs F → vs.length = xs.length
  | [], [], _ => rfl
  | _ :: _, _ :: _, h => by simp [AllR.len h.2]
theorem AllR.get : ∀ {xs : List α} {vs : List V} {i : Nat} {x : α}, AllR R xs vs F → xs[i]? = some x → ∃ v, vs[i]? = some v ∧ (R x).p v F
  | x :: xs, v :: vs, 0, y, h, e => by simp at e; subst e; exact ⟨v, rfl, h.1⟩
  | x :: xs, v :: vs, i + 1, y, h, e => by
    obtain ⟨w, h1, h2⟩ := AllR.get (i := i) h.2 (by simpa using e)
    exact ⟨w, by simpa using h1, h2⟩
  | [], _, i, y, h, e => by simp at e
theorem AllR.append : ∀ {xs ys : List α} {vs ws : List V}, AllR R xs vs F → AllR R ys ws F → AllR R (xs ++ ys) (vs ++ ws) F
  | [], _, [], _, _, h => h
  | _ :: _, _, _ :: _, _, h, k => ⟨h.1, AllR.append h.2 k⟩
theorem AllR.drop : ∀ {xs : List α} {vs : List V} (n : Nat), AllR R xs vs F → AllR R (xs.drop n) (vs.drop n) F
  | [], [], n, _ => by simp [AllR]
  | _ :: _, _ :: _, 0, h => h
  | _ :: _, _ :: _, n + 1, h => AllR.drop n h.2
theorem AllR.take : ∀ {xs : List α} {vs : List V} (n : Nat), AllR R xs vs F → AllR R (xs.take n) (vs.take n) F
  | [], [], n, _ => by simp [AllR]
  | _ :: _, _ :: _, 0, h => trivial
  | _ :: _, _ :: _, n + 1, h => ⟨h.1, AllR.take n h.2⟩
theorem AllR.reverse : ∀ {xs : List α} {vs : List V}, AllR R xs vs F → AllR R xs.reverse vs.reverse F
  | [], [], _ => trivial
  | x :: xs, v :: vs, h => by
    rw [List.reverse_cons, List.reverse_cons]
    exact AllR.append (AllR.reverse h.2) ⟨h.1, trivial⟩
theorem AllR.set : ∀ {xs : List α} {vs : List V} {x : α} {v : V} (i : Nat), AllR R xs vs F → (R x).p v F → AllR R (xs.set i x) (vs.set i v) F
  | [], [], _, _, _, _, _ => trivial
  | _ :: _, _ :: _, _, _, 0, h, k => ⟨k, h.2⟩
  | _ :: _, _ :: _, _, _, i + 1, h, k => ⟨h.1, AllR.set i h.2 k⟩
theorem AllR.dropLast {xs : List α} {vs : List V} (h : AllR R xs vs F) : AllR R xs.dropLast vs.dropLast F := by
  rw [List.dropLast_eq_take, List.dropLast_eq_take, h.len]
  exact h.take _
theorem AllR.erase : ∀ {xs : List α} {vs : List V} (i : Nat), AllR R xs vs F → AllR R (xs.eraseIdx i) (vs.eraseIdx i) F
  | [], [], _, _ => trivial
  | _ :: _, _ :: _, 0, h => h.2
  | _ :: _, _ :: _, i + 1, h => ⟨h.1, AllR.erase i h.2⟩
theorem AllR.rep {xs : List α} {vs : List V} (h : AllR R xs vs F) : ∀ n : Nat, AllR R (List.replicate n xs).flatten (List.replicate n vs).flatten F
  | 0 => trivial
  | n + 1 => by
    rw [List.replicate_succ, List.replicate_succ, List.flatten_cons, List.flatten_cons]
    exact h.append (AllR.rep h n)
theorem AllR.ints {xs : List Int} : ∀ {vs : List V}, AllR RInt xs vs F ↔ vs = xs.map V.int := by
  induction xs with
  | nil => intro vs; cases vs with | nil => exact ⟨fun _ => rfl, fun _ => trivial⟩ | cons v vs => exact ⟨fun h => h.elim, fun h => by cases h⟩
  | cons x xs ih =>
    intro vs
    cases vs with
    | nil => exact ⟨fun h => h.elim, fun h => by cases h⟩
    | cons v vs =>
      refine ⟨fun h => ?_, fun h => ?_⟩
      · have h1 : v = .int x := h.1
        rw [h1, ih.mp h.2]; rfl
      · rw [List.map_cons] at h
        obtain ⟨h1, h2⟩ := List.cons.inj h
        exact ⟨h1, ih.mpr h2⟩
theorem AllR.bools {xs : List Bool} : ∀ {vs : List V}, AllR RBool xs vs F ↔ vs = xs.map V.bl := by
  induction xs with
  | nil => intro vs; cases vs with | nil => exact ⟨fun _ => rfl, fun _ => trivial⟩ | cons v vs => exact ⟨fun h => h.elim, fun h => by cases h⟩
  | cons x xs ih =>
    intro vs
    cases vs with
    | nil => exact ⟨fun h => h.elim, fun h => by cases h⟩
    | cons v vs =>
      refine ⟨fun h => ?_, fun h => ?_⟩
      · have h1 : v = .bl x := h.1
        rw [h1, ih.mp h.2]; rfl
      · rw [List.map_cons] at h
        obtain ⟨h1, h2⟩ := List.cons.inj h
        exact ⟨h1, ih.mpr h2⟩
theorem AllR.strs {xs : List Str} : ∀ {vs : List V}, AllR RStr xs vs F ↔ vs = xs.map V.str := by
  induction xs with
  | nil => intro vs; cases vs with | nil => exact ⟨fun _ => rfl, fun _ => trivial⟩ | cons v vs => exact ⟨fun h => h.elim, fun h => by cases h⟩
  | cons x xs ih =>
    intro vs
    cases vs with
    | nil => exact ⟨fun h => h.elim, fun h => by cases h⟩
    | cons v vs =>
      refine ⟨fun h => ?_, fun h => ?_⟩
      · have h1 : v = .str x := h.1
        rw [h1, ih.mp h.2]; rfl
      · rw [List.map_cons] at h
        obtain ⟨h1, h2⟩ := List.cons.inj h
        exact ⟨h1, ih.mpr h2⟩
end
theorem seqL_mono {K : PySem.W.Frag} {F F' : Hp} {a : Addr} {xs : List V} (e : Same F F') (h : SqL K F a xs) : SqL K F' a xs := e.seq h
theorem seqT_mono {K : PySem.W.Frag} {F F' : Hp} {a : Addr} {xs : List V} (e : Same F F') (h : SqT K F a xs) : SqT K F' a xs := by
  rcases h with (h | ⟨o, h⟩) | h
  · exact .inl (.inl (e _ _ h))
  · exact .inl (.inr ⟨o, e _ _ h⟩)
  · exact .inr h
/-- a list that is not changed any more; a tuple -/
def RList (K : PySem.W.Frag) {α : Type} (R : α → Pd) (xs : List α) : Pd := ⟨fun v F => ∃ a vs, v = .ref a ∧ SqL K F a vs ∧ AllR R xs vs F, fun _ _ _ e ⟨a, vs, h1, h2, h3⟩ => ⟨a, vs, h1, seqL_mono e h2, h3.mono e⟩⟩
/-- .. that stands in the heap itself (not the script) -/
def RLst {α : Type} (R : α → Pd) (xs : List α) : Pd := ⟨fun v F => ∃ a vs, v = .ref a ∧ F a = some (.lst vs) ∧ AllR R xs vs F, fun _ _ _ e ⟨a, vs, h1, h2, h3⟩ => ⟨a, vs, h1, e _ _ h2, h3.mono e⟩⟩
def RTup (K : PySem.W.Frag) {α : Type} (R : α → Pd) (xs : List α) : Pd := ⟨fun v F => ∃ a vs, v = .ref a ∧ SqT K F a vs ∧ AllR R xs vs F, fun _ _ _ e ⟨a, vs, h1, h2, h3⟩ => ⟨a, vs, h1, seqT_mono e h2, h3.mono e⟩⟩
def RPair (K : PySem.W.Frag) {α β : Type} (R : α → Pd) (R' : β → Pd) (x : α × β) : Pd :=
  ⟨fun v F => ∃ a v1 v2, v = .ref a ∧ SqT K F a [v1, v2] ∧ (R x.1).p v1 F ∧ (R' x.2).p v2 F, fun _ _ _ e ⟨a, v1, v2, h1, h2, h3, h4⟩ => ⟨a, v1, v2, h1, seqT_mono e h2, (R _).mono _ _ _ e h3, (R' _).mono _ _ _ e h4⟩⟩
def OList {α : Type} (R : α → Pd) (xs : List α) : Od := ⟨fun o F => ∃ vs, o = .lst vs ∧ AllR R xs vs F, fun _ _ _ e ⟨vs, h1, h2⟩ => ⟨vs, h1, h2.mono e⟩⟩
def AllP : List Pd → List V → Hp → Prop
  | [], [], _ => True
  | P :: Ps, v :: vs, F => P.p v F ∧ AllP Ps vs F
  | _, _, _ => False
theorem AllP.mono {F F' : Hp} (e : Same F F') : ∀ {Ps : List Pd} {vs : List V}, AllP Ps vs F → AllP Ps vs F'
  | [], [], _ => trivial
  | _ :: _, _ :: _, h => ⟨(‹Pd›).mono _ _ _ e h.1, AllP.mono e h.2⟩
theorem AllP.len {F : Hp} : ∀ {Ps : List Pd} {vs : List V}, AllP Ps vs F → vs.length = Ps.length
  | [], [], _ => rfl
  | _ :: _, _ :: _, h => by simp [AllP.len h.2]

/-! ### judgements -/
def tE {S α : Type} (B : Bs) (Γ : S → List Sl) (R : α → Pd) (m : S → (α → S → Prop) → Prop) : TE := fun σ H Q =>
  ∃ s F K, At B (Γ s) σ F H ∧ m s K ∧ ∀ x s' v F' H', K x s' → At B (Γ s') σ F' H' → Same F F' → (R x).p v F' → Q v H'
/-- a new list, owned by nobody yet -/
def tN {S α : Type} (B : Bs) (Γ : S → List Sl) (R : α → Pd) (m : S → (List α → S → Prop) → Prop) : TE := fun σ H Q =>
  ∃ s F K, At B (Γ s) σ F H ∧ m s K ∧ ∀ xs s' p vs F' H', K xs s' → At B (Γ s') σ F' H' → Same F F' → H' p = some (.lst vs) → F' p = none → B.H p = none → p ∉ owA (Γ s') σ → AllR R xs vs F' → Q (.ref p) H'
def tT {S : Type} (B : Bs) (Γ : S → List Sl) (m : S → (Bool → S → Prop) → Prop) : TT := fun σ H Q =>
  ∃ s F K, At B (Γ s) σ F H ∧ m s K ∧ ∀ b s' F' H', K b s' → At B (Γ s') σ F' H' → Same F F' → Q b H'
def tA {S ι : Type} (B : Bs) (Γ : S → List Sl) (As : ι → List Pd) (m : S → (ι → S → Prop) → Prop) : TA := fun σ H Q =>
  ∃ s F K, At B (Γ s) σ F H ∧ m s K ∧ ∀ x s' vs F' H', K x s' → At B (Γ s') σ F' H' → Same F F' → AllP (As x) vs F' → Q vs H'
def tO {S : Type} (B : Bs) (Γ : S → List Sl) (m : S → (Option Int → S → Prop) → Prop) : L2.TO := fun σ H Q =>
  ∃ s F K, At B (Γ s) σ F H ∧ m s K ∧ ∀ o s' F' H', K o s' → At B (Γ s') σ F' H' → Same F F' → Q o H'
def acons {α ι : Type} (R : α → Pd) (As : ι → List Pd) (x : α × ι) : List Pd := R x.1 :: As x.2
def anil (_ : Unit) : List Pd := []

theorem pe_imp {X : Cx} {e : Expr} {t t' : TE} (h : PE X e t) (i : ∀ σ H Q, t' σ H Q → t σ H Q) : PE X e t' := ⟨fun pins s σ H Q I q => h.run pins s σ H Q I (i _ _ _ q)⟩
theorem pt_imp {X : Cx} {e : Expr} {t t' : TT} (h : PT X e t) (i : ∀ σ H Q, t' σ H Q → t σ H Q) : PT X e t' := ⟨fun pins s σ H Q I q => h.run pins s σ H Q I (i _ _ _ q)⟩
theorem pw_imp {X : Cx} {e : Expr} {t t' : TT} (h : PW X e t) (i : ∀ σ H Q, t' σ H Q → t σ H Q) : PW X e t' := ⟨fun wh pins s σ H Q I q => h.run wh pins s σ H Q I (i _ _ _ q)⟩
theorem pa_imp {X : Cx} {es : List Expr} {t t' : TA} (h : PA X es t) (i : ∀ σ H Q, t' σ H Q → t σ H Q) : PA X es t' := ⟨fun pos pins s σ H Q I q => h.run pos pins s σ H Q I (i _ _ _ q)⟩
theorem po_imp {X : Cx} {e : Option Expr} {t t' : L2.TO} (h : PO X e t) (i : ∀ σ H Q, t' σ H Q → t σ H Q) : PO X e t' := ⟨fun pins s σ H Q I q => h.run pins s σ H Q I (i _ _ _ q)⟩
theorem ps_imp {X : Cx} {e : Stmt} {t t' : TS} (h : PS X e t) (i : ∀ D σ H, t' D σ H → t D σ H) : PS X e t' := ⟨fun pins s σ H D I q => h.run pins s σ H D I (i _ _ _ q)⟩
theorem pss_imp {X : Cx} {e : List Stmt} {t t' : TS} (h : PSs X e t) (i : ∀ D σ H, t' D σ H → t D σ H) : PSs X e t' := ⟨fun pins s σ H D I q => h.run pins s σ H D I (i _ _ _ q)⟩
theorem pi_imp {X : Cx} {tg e : Expr} {t t' : TI} (h : PI X tg e t) (i : ∀ σ H Q, t' σ H Q → t σ H Q) : PI X tg e t' := ⟨fun pins s σ H Q I q => h.run pins s σ H Q I (i _ _ _ q)⟩


section
variable {X : Cx} {S : Type} {B : Bs} {Γ : S → List Sl} {K : PySem.W.Frag} {α β γ ι : Type} {R Ra : α → Pd} {Rb : β → Pd} {Rc : γ → Pd} {e a b c : Expr} {pos : Pos}
variable {m ma : S → (α → S → Prop) → Prop} {mb : S → (β → S → Prop) → Prop}

/-- a new list, known from now on -/
theorem te_lst {m : S → (List α → S → Prop) → Prop} (h : PE X e (tN B Γ R m)) : PE X e (tE B Γ (RLst R) m) :=
  pe_imp h fun σ H Q ⟨s, F, K', A, hm, k⟩ => ⟨s, F, K', A, hm, fun xs s' p vs F' H' kx A' e' hp fp bp np av => by
    obtain ⟨A2, sF⟩ := A'.know fp hp bp np
    exact k xs s' (.ref p) (upd F' p (.lst vs)) H' kx A2 (e'.trans sF) ⟨p, vs, rfl, upd_same, av.mono sF⟩⟩
theorem te_known {m : S → (List α → S → Prop) → Prop} (h : PE X e (tN B Γ R m)) : PE X e (tE B Γ (RList K R) m) :=
  pe_imp h fun σ H Q ⟨s, F, K', A, hm, k⟩ => ⟨s, F, K', A, hm, fun xs s' p vs F' H' kx A' e' hp fp bp np av => by
    obtain ⟨A2, sF⟩ := A'.know fp hp bp np
    exact k xs s' (.ref p) (upd F' p (.lst vs)) H' kx A2 (e'.trans sF) ⟨p, vs, rfl, SqL.of upd_same, av.mono sF⟩⟩
theorem te_var (i : Nat) {x : Str} {f : S → α} (hG : ∀ s, (Γ s)[i]? = some (.im (R (f s))) := by intro _; rfl) (hN : X.N[i]? = some x := by rfl) (hv : Vis X.env.scope x := by first | exact Or.inl rfl | exact Or.inr (Or.inl rfl) | exact Or.inr (Or.inr rfl)) (hd : (x == ("__debug__" : Str)) = false := by decide)
    (hcd : (x == ("__classdict__" : Str)) = false := by decide) : PE X (.Name x pos) (tE B Γ R (fun s K => K (f s) s)) :=
  pe_imp (pe_var hN hv hd hcd) fun σ H Q ⟨s, F, K', A, hm, k⟩ => by
    obtain ⟨v, h1, h2⟩ := A.im (hG s)
    exact ⟨v, h1, k _ s v F H hm A (Same.refl F) h2⟩
theorem te_const {v : V} {x : α} (h : PE X e (tC v)) (hv : ∀ F, (R x).p v F) : PE X e (tE B Γ R (fun s K => K x s)) :=
  pe_imp h fun σ H Q ⟨s, F, K', A, hm, k⟩ => k _ s v F H hm A (Same.refl F) (hv F)
theorem te_int {i : Int} {j} : PE X (.Constant (.int i) j pos) (tE B Γ RInt (fun s K => K i s)) := te_const pe_int fun _ => rfl
theorem te_str {i : Str} {j} : PE X (.Constant (.str i) j pos) (tE B Γ RStr (fun s K => K i s)) := te_const pe_str fun _ => rfl
theorem te_bl {i : Bool} {j} : PE X (.Constant (.bool i) j pos) (tE B Γ RBool (fun s K => K i s)) := te_const pe_bl fun _ => rfl
theorem te_non {j} : PE X (.Constant .none j pos) (tE B Γ RNon (fun s K => K () s)) := te_const pe_non fun _ => rfl
theorem te_none {j} : PE X (.Constant .none j pos) (tE B Γ (ROpt R) (fun s K => K none s)) := te_const pe_non fun _ => rfl
theorem te_some (h : PE X e (tE B Γ R m)) (hn : ∀ x v F, (R x).p v F → v ≠ .non) : PE X e (tE B Γ (ROpt R) (fun s K => m s fun x s' => K (some x) s')) :=
  pe_imp h fun σ H Q ⟨s, F, K', A, hm, k⟩ => ⟨s, F, _, A, hm, fun x s' v F' H' kx A' e' r => k (some x) s' v F' H' kx A' e' ⟨hn _ _ _ r, r⟩⟩
/-- what is known may be weakened -/
theorem te_as {R' : β → Pd} {f : α → β} (h : PE X e (tE B Γ R m)) (hi : ∀ x v F, (R x).p v F → (R' (f x)).p v F) : PE X e (tE B Γ R' (fun s K => m s fun x s' => K (f x) s')) :=
  pe_imp h fun σ H Q ⟨s, F, K', A, hm, k⟩ => ⟨s, F, _, A, hm, fun x s' v F' H' kx A' e' r => k (f x) s' v F' H' kx A' e' (hi _ _ _ r)⟩
theorem te_glob {x : Str} {u : Value} {v : V} {y : α} (hg : Gl X x) (hm : X.mg x = some u) (r : RelV v u) (hv : ∀ F, (R y).p v F) (hd : (x == ("__debug__" : Str)) = false := by decide) : PE X (.Name x pos) (tE B Γ R (fun s K => K y s)) := te_const (pe_glob hg hm r hd) hv

/-! ### two-place operations -/
/-- no new object -/
def OpV (r : R2) (Ra : α → Pd) (Rb : β → Pd) (Rc : γ → Pd) (co : α → β → Prop) (f : α → β → γ) : Prop := ∀ x y v w F H (Q : VK), (Ra x).p v F → (Rb y).p w F → Same F H → co x y → (∀ u, (Rc (f x y)).p u F → Q u H) → r v w H Q
def OpU (r : R2) (Ra : α → Pd) (Rb : β → Pd) (Rc : γ → Pd) (f : α → β → γ) : Prop := ∀ x y v w F H (Q : VK), (Ra x).p v F → (Rb y).p w F → Same F H → (∀ u, (Rc (f x y)).p u F → Q u H) → r v w H Q
/-- a new list -/
def OpN (r : R2) (Ra : α → Pd) (Rb : β → Pd) (Rc : γ → Pd) (co : α → β → Prop) (f : α → β → List γ) : Prop := ∀ x y v w F H (Q : VK), (Ra x).p v F → (Rb y).p w F → Same F H → co x y → (∀ p vs, H p = none → AllR Rc (f x y) vs F → Q (.ref p) (upd H p (.lst vs))) → r v w H Q
theorem top_v {r : R2} {co : α → β → Prop} {f : α → β → γ} (h : OpV r Ra Rb Rc co f) {σ : L2.St} {H : Hp} {Q : VK} (q : tE B Γ Rc (fun s K => ma s fun x s1 => mb s1 fun y s2 => co x y ∧ K (f x y) s2) σ H Q) : tOp r (tE B Γ Ra ma) (tE B Γ Rb mb) σ H Q := by
  obtain ⟨s, F, K', A, hm, k⟩ := q
  exact ⟨s, F, _, A, hm, fun x s1 v F1 H1 h1 A1 e1 r1 => ⟨s1, F1, _, A1, h1, fun y s2 w F2 H2 ⟨hc, kk⟩ A2 e2 r2 => h x y v w F2 H2 Q ((Ra x).mono _ _ _ e2 r1) r2 A2.sub hc fun u ru => k _ s2 u F2 H2 kk A2 (e1.trans e2) ru⟩⟩
theorem top_u {r : R2} {f : α → β → γ} (h : OpU r Ra Rb Rc f) {σ : L2.St} {H : Hp} {Q : VK} (q : tE B Γ Rc (fun s K => ma s fun x s1 => mb s1 fun y s2 => K (f x y) s2) σ H Q) : tOp r (tE B Γ Ra ma) (tE B Γ Rb mb) σ H Q := by
  obtain ⟨s, F, K', A, hm, k⟩ := q
  exact ⟨s, F, _, A, hm, fun x s1 v F1 H1 h1 A1 e1 r1 => ⟨s1, F1, _, A1, h1, fun y s2 w F2 H2 kk A2 e2 r2 => h x y v w F2 H2 Q ((Ra x).mono _ _ _ e2 r1) r2 A2.sub fun u ru => k _ s2 u F2 H2 kk A2 (e1.trans e2) ru⟩⟩
theorem top_n {r : R2} {co : α → β → Prop} {f : α → β → List γ} (h : OpN r Ra Rb Rc co f) {σ : L2.St} {H : Hp} {Q : VK} (q : tN B Γ Rc (fun s K => ma s fun x s1 => mb s1 fun y s2 => co x y ∧ K (f x y) s2) σ H Q) : tOp r (tE B Γ Ra ma) (tE B Γ Rb mb) σ H Q := by
  obtain ⟨s, F, K', A, hm, k⟩ := q
  exact ⟨s, F, _, A, hm, fun x s1 v F1 H1 h1 A1 e1 r1 => ⟨s1, F1, _, A1, h1, fun y s2 w F2 H2 ⟨hc, kk⟩ A2 e2 r2 => h x y v w F2 H2 Q ((Ra x).mono _ _ _ e2 r1) r2 A2.sub hc fun p vs np av => by
    have fr := A2.fresh np
    exact k _ s2 p vs F2 _ kk (A2.layH np) (e1.trans e2) upd_same fr.1 fr.2 (A2.notOwn np) av⟩⟩
theorem te_op {op : Operator} {r : R2} {co : α → β → Prop} {f : α → β → γ} (ho : OpR X (binaryOp op) r) (h : OpV r Ra Rb Rc co f) (ha : PE X a (tE B Γ Ra ma)) (hb : PE X b (tE B Γ Rb mb)) :
    PE X (.BinOp a op b pos) (tE B Γ Rc (fun s K => ma s fun x s1 => mb s1 fun y s2 => co x y ∧ K (f x y) s2)) := pe_imp (pe_op ho ha hb) fun _ _ _ q => top_v h q
theorem te_opU {op : Operator} {r : R2} {f : α → β → γ} (ho : OpR X (binaryOp op) r) (h : OpU r Ra Rb Rc f) (ha : PE X a (tE B Γ Ra ma)) (hb : PE X b (tE B Γ Rb mb)) :
    PE X (.BinOp a op b pos) (tE B Γ Rc (fun s K => ma s fun x s1 => mb s1 fun y s2 => K (f x y) s2)) := pe_imp (pe_op ho ha hb) fun _ _ _ q => top_u h q
theorem tn_op {op : Operator} {r : R2} {co : α → β → Prop} {f : α → β → List γ} (ho : OpR X (binaryOp op) r) (h : OpN r Ra Rb Rc co f) (ha : PE X a (tE B Γ Ra ma)) (hb : PE X b (tE B Γ Rb mb)) :
    PE X (.BinOp a op b pos) (tN B Γ Rc (fun s K => ma s fun x s1 => mb s1 fun y s2 => co x y ∧ K (f x y) s2)) := pe_imp (pe_op ho ha hb) fun _ _ _ q => top_n h q
theorem te_cmp {op : CmpOp} {r : R2} {co : α → β → Prop} {f : α → β → γ} (ho : OpR X (compareOp op) r) (h : OpV r Ra Rb Rc co f) (ha : PE X a (tE B Γ Ra ma)) (hb : PE X b (tE B Γ Rb mb)) (hm : behindInMarks op b = false) :
    PE X (.Compare a [op] [b] pos) (tE B Γ Rc (fun s K => ma s fun x s1 => mb s1 fun y s2 => co x y ∧ K (f x y) s2)) := pe_imp (pe_cmpR ho ha hb hm) fun _ _ _ q => top_v h q
theorem te_cmpU {op : CmpOp} {r : R2} {f : α → β → γ} (ho : OpR X (compareOp op) r) (h : OpU r Ra Rb Rc f) (ha : PE X a (tE B Γ Ra ma)) (hb : PE X b (tE B Γ Rb mb)) (hm : behindInMarks op b = false) :
    PE X (.Compare a [op] [b] pos) (tE B Γ Rc (fun s K => ma s fun x s1 => mb s1 fun y s2 => K (f x y) s2)) := pe_imp (pe_cmpR ho ha hb hm) fun _ _ _ q => top_u h q

theorem opU_int {g : Int → Int → V} {f : Int → Int → γ} (h : ∀ i j F, (Rc (f i j)).p (g i j) F) : OpU (rI0 g) RInt RInt Rc f := fun x y v w F H Q hx hy _ q => ⟨x, y, hx, hy, q _ (h x y F)⟩
theorem opV_int {C : Int → Int → Prop} {g : Int → Int → V} {f : Int → Int → γ} (h : ∀ i j F, (Rc (f i j)).p (g i j) F) : OpV (rI C g) RInt RInt Rc C f := fun x y v w F H Q hx hy _ hc q => ⟨x, y, hx, hy, hc, q _ (h x y F)⟩
theorem te_add {ma mb : S → (Int → S → Prop) → Prop} (ha : PE X a (tE B Γ RInt ma)) (hb : PE X b (tE B Γ RInt mb)) : PE X (.BinOp a .Add b pos) (tE B Γ RInt (fun s K => ma s fun x s1 => mb s1 fun y s2 => K (x + y) s2)) := te_opU op_add (opU_int fun _ _ _ => rfl) ha hb
theorem te_sub {ma mb : S → (Int → S → Prop) → Prop} (ha : PE X a (tE B Γ RInt ma)) (hb : PE X b (tE B Γ RInt mb)) : PE X (.BinOp a .Sub b pos) (tE B Γ RInt (fun s K => ma s fun x s1 => mb s1 fun y s2 => K (x - y) s2)) := te_opU op_sub (opU_int fun _ _ _ => rfl) ha hb
theorem te_mul {ma mb : S → (Int → S → Prop) → Prop} (ha : PE X a (tE B Γ RInt ma)) (hb : PE X b (tE B Γ RInt mb)) : PE X (.BinOp a .Mult b pos) (tE B Γ RInt (fun s K => ma s fun x s1 => mb s1 fun y s2 => CMul x y ∧ K (x * y) s2)) := te_op op_mul (opV_int fun _ _ _ => rfl) ha hb
theorem te_fdiv {ma mb : S → (Int → S → Prop) → Prop} (ha : PE X a (tE B Γ RInt ma)) (hb : PE X b (tE B Γ RInt mb)) : PE X (.BinOp a .FloorDiv b pos) (tE B Γ RInt (fun s K => ma s fun x s1 => mb s1 fun y s2 => CDivN x y ∧ K (x.fdiv y) s2)) := te_op op_fdivN (opV_int fun _ _ _ => rfl) ha hb
theorem te_mod {ma mb : S → (Int → S → Prop) → Prop} (ha : PE X a (tE B Γ RInt ma)) (hb : PE X b (tE B Γ RInt mb)) : PE X (.BinOp a .Mod b pos) (tE B Γ RInt (fun s K => ma s fun x s1 => mb s1 fun y s2 => y ≠ 0 ∧ K (x.fmod y) s2)) := te_op (co := fun _ y => y ≠ 0) op_modN (opV_int fun _ _ _ => rfl) ha hb
theorem te_pow {ma mb : S → (Int → S → Prop) → Prop} (ha : PE X a (tE B Γ RInt ma)) (hb : PE X b (tE B Γ RInt mb)) : PE X (.BinOp a .Pow b pos) (tE B Γ RInt (fun s K => ma s fun x s1 => mb s1 fun y s2 => CPow x y ∧ K (x ^ y.toNat) s2)) := te_op op_pow (opV_int fun _ _ _ => rfl) ha hb
theorem te_neg {ma : S → (Int → S → Prop) → Prop} (ha : PE X a (tE B Γ RInt ma)) : PE X (.UnaryOp .USub a pos) (tE B Γ RInt (fun s K => ma s fun x s1 => K (-x) s1)) :=
  pe_imp (pe_un un_neg ha) fun σ H Q ⟨s, F, K', A, hm, k⟩ => ⟨s, F, _, A, hm, fun x s1 v F1 H1 h1 A1 e1 r1 => ⟨x, r1, k _ s1 _ F1 H1 h1 A1 e1 rfl⟩⟩
theorem te_lt {ma mb : S → (Int → S → Prop) → Prop} (ha : PE X a (tE B Γ RInt ma)) (hb : PE X b (tE B Γ RInt mb)) : PE X (.Compare a [.Lt] [b] pos) (tE B Γ RBool (fun s K => ma s fun x s1 => mb s1 fun y s2 => K (decide (x < y)) s2)) := te_cmpU op_lt (opU_int fun _ _ _ => rfl) ha hb (nomark _)
theorem te_le {ma mb : S → (Int → S → Prop) → Prop} (ha : PE X a (tE B Γ RInt ma)) (hb : PE X b (tE B Γ RInt mb)) : PE X (.Compare a [.LtE] [b] pos) (tE B Γ RBool (fun s K => ma s fun x s1 => mb s1 fun y s2 => K (decide (x ≤ y)) s2)) := te_cmpU op_le (opU_int fun _ _ _ => rfl) ha hb (nomark _)
theorem te_gt {ma mb : S → (Int → S → Prop) → Prop} (ha : PE X a (tE B Γ RInt ma)) (hb : PE X b (tE B Γ RInt mb)) : PE X (.Compare a [.Gt] [b] pos) (tE B Γ RBool (fun s K => ma s fun x s1 => mb s1 fun y s2 => K (decide (y < x)) s2)) := te_cmpU op_gt (opU_int fun _ _ _ => rfl) ha hb (nomark _)
theorem te_ge {ma mb : S → (Int → S → Prop) → Prop} (ha : PE X a (tE B Γ RInt ma)) (hb : PE X b (tE B Γ RInt mb)) : PE X (.Compare a [.GtE] [b] pos) (tE B Γ RBool (fun s K => ma s fun x s1 => mb s1 fun y s2 => K (decide (y ≤ x)) s2)) := te_cmpU op_ge (opU_int fun _ _ _ => rfl) ha hb (nomark _)
/-- == of flat values: ints, bools, texts, None -/
structure Flat (R : α → Pd) (g : α → V) : Prop where
  rep : ∀ x v F, (R x).p v F → v = g x
  inj : ∀ x y, g x = g y → x = y
  sc : ∀ x y, scal (g x) (g y) = true
theorem flat_int : Flat RInt V.int := ⟨fun _ _ _ h => h, fun _ _ h => by injection h, fun _ _ => rfl⟩
theorem flat_bool : Flat RBool V.bl := ⟨fun _ _ _ h => h, fun _ _ h => by injection h, fun _ _ => rfl⟩
theorem flat_str : Flat RStr V.str := ⟨fun _ _ _ h => h, fun _ _ h => by injection h, fun _ _ => rfl⟩
theorem opU_eq [DecidableEq α] {g : α → V} (h : Flat R g) : OpU rEq R R RBool (fun x y => decide (x = y)) := fun x y v w F H Q hx hy _ q => by
  have e1 := h.rep _ _ _ hx
  have e2 := h.rep _ _ _ hy
  subst e1; subst e2
  refine ⟨h.sc x y, q _ ?_⟩
  show V.bl _ = V.bl _
  congr 1
  by_cases e : x = y
  · subst e; simp
  · simp [e, show ¬ g x = g y from fun z => e (h.inj x y z)]
theorem opU_ne [DecidableEq α] {g : α → V} (h : Flat R g) : OpU rNe R R RBool (fun x y => !decide (x = y)) := fun x y v w F H Q hx hy _ q => by
  have e1 := h.rep _ _ _ hx
  have e2 := h.rep _ _ _ hy
  subst e1; subst e2
  refine ⟨h.sc x y, q _ ?_⟩
  show V.bl _ = V.bl _
  congr 1
  by_cases e : x = y
  · subst e; simp
  · simp [e, show ¬ g x = g y from fun z => e (h.inj x y z)]
theorem te_eq [DecidableEq α] {g : α → V} (h : Flat R g) {mb : S → (α → S → Prop) → Prop} (ha : PE X a (tE B Γ R ma)) (hb : PE X b (tE B Γ R mb)) : PE X (.Compare a [.Eq] [b] pos) (tE B Γ RBool (fun s K => ma s fun x s1 => mb s1 fun y s2 => K (decide (x = y)) s2)) := te_cmpU op_eq (opU_eq h) ha hb (nomark _)
theorem te_ne [DecidableEq α] {g : α → V} (h : Flat R g) {mb : S → (α → S → Prop) → Prop} (ha : PE X a (tE B Γ R ma)) (hb : PE X b (tE B Γ R mb)) : PE X (.Compare a [.NotEq] [b] pos) (tE B Γ RBool (fun s K => ma s fun x s1 => mb s1 fun y s2 => K (!decide (x = y)) s2)) := te_cmpU op_ne (opU_ne h) ha hb (nomark _)
theorem te_isb {ma mb : S → (Bool → S → Prop) → Prop} (ha : PE X a (tE B Γ RBool ma)) (hb : PE X b (tE B Γ RBool mb)) : PE X (.Compare a [.Is] [b] pos) (tE B Γ RBool (fun s K => ma s fun x s1 => mb s1 fun y s2 => K (decide (x = y)) s2)) :=
  te_cmpU op_is_bl (fun x y v w F H Q hx hy _ q => ⟨x, y, hx, hy, q _ rfl⟩) ha hb (nomark _)
theorem te_isnotb {ma mb : S → (Bool → S → Prop) → Prop} (ha : PE X a (tE B Γ RBool ma)) (hb : PE X b (tE B Γ RBool mb)) : PE X (.Compare a [.IsNot] [b] pos) (tE B Γ RBool (fun s K => ma s fun x s1 => mb s1 fun y s2 => K (!decide (x = y)) s2)) :=
  te_cmpU op_isnot_bl (fun x y v w F H Q hx hy _ q => ⟨x, y, hx, hy, q _ rfl⟩) ha hb (nomark _)

/-- a comparison by typed values -/
def OpG (r : R2) (Ra : α → Pd) (Rb : β → Pd) (f : α → β → Bool) : Prop := ∀ x y v w F H (Q : VK), (Ra x).p v F → (Rb y).p w F → Same F H → (∀ F' H', Same F F' → Same H H' → Same F' H' → Nw F H F' → Q (.bl (f x y)) H') → r v w H Q
theorem OpU.g {r : R2} {f : α → β → Bool} (h : OpU r Ra Rb RBool f) : OpG r Ra Rb f := fun x y v w F H Q hx hy e q => h x y v w F H Q hx hy e fun u hu => by
  have hu : u = .bl (f x y) := hu
  subst hu
  exact q F H (Same.refl F) (Same.refl H) e Nw.refl
def CR (X : Cx) (op : CmpOp) (Ra : α → Pd) (Rb : β → Pd) (f : α → β → Bool) : Prop := ∃ r, OpR X (compareOp op) r ∧ OpG r Ra Rb f
theorem te_c {op : CmpOp} {f : α → β → Bool} (h : CR X op Ra Rb f) (ha : PE X a (tE B Γ Ra ma)) (hb : PE X b (tE B Γ Rb mb)) (hm : behindInMarks op b = false := by first | exact nomark _ | rfl) :
    PE X (.Compare a [op] [b] pos) (tE B Γ RBool (fun s K => ma s fun x s1 => mb s1 fun y s2 => K (f x y) s2)) := by
  obtain ⟨r, h1, h2⟩ := h
  refine pe_imp (pe_cmpR h1 ha hb hm) fun σ H Q ⟨s, F, K', A, hm, k⟩ => ?_
  exact ⟨s, F, _, A, hm, fun x s1 v F1 H1 h1 A1 e1 r1 => ⟨s1, F1, _, A1, h1, fun y s2 w F2 H2 kk A2 e2 r2 => h2 x y v w F2 H2 _ ((Ra x).mono _ _ _ e2 r1) r2 A2.sub fun F3 H3 z1 z2 z3 z4 => k _ s2 _ F3 H3 kk (A2.grow z1 z2 z3 z4) ((e1.trans e2).trans z1) rfl⟩⟩
theorem tt_c {op : CmpOp} {f : α → β → Bool} (h : CR X op Ra Rb f) (ha : PE X a (tE B Γ Ra ma)) (hb : PE X b (tE B Γ Rb mb)) (hm : behindInMarks op b = false := by first | exact nomark _ | rfl) :
    PT X (.Compare a [op] [b] pos) (tT B Γ (fun s K => ma s fun x s1 => mb s1 fun y s2 => K (f x y) s2)) := by
  obtain ⟨r, h1, h2⟩ := h
  refine pt_imp (pt_cmpR h1 ha hb hm) fun σ H Q ⟨s, F, K', A, hm, k⟩ => ?_
  exact ⟨s, F, _, A, hm, fun x s1 v F1 H1 h1 A1 e1 r1 => ⟨s1, F1, _, A1, h1, fun y s2 w F2 H2 kk A2 e2 r2 => h2 x y v w F2 H2 _ ((Ra x).mono _ _ _ e2 r1) r2 A2.sub fun F3 H3 z1 z2 z3 z4 => ⟨f x y, rfl, k _ s2 F3 H3 kk (A2.grow z1 z2 z3 z4) ((e1.trans e2).trans z1)⟩⟩⟩
theorem cr_lt : CR X .Lt RInt RInt (fun x y => decide (x < y)) := ⟨_, op_lt, (opU_int fun _ _ _ => rfl).g⟩
theorem cr_le : CR X .LtE RInt RInt (fun x y => decide (x ≤ y)) := ⟨_, op_le, (opU_int fun _ _ _ => rfl).g⟩
theorem cr_gt : CR X .Gt RInt RInt (fun x y => decide (y < x)) := ⟨_, op_gt, (opU_int fun _ _ _ => rfl).g⟩
theorem cr_ge : CR X .GtE RInt RInt (fun x y => decide (y ≤ x)) := ⟨_, op_ge, (opU_int fun _ _ _ => rfl).g⟩
theorem cr_eq [DecidableEq α] {g : α → V} (h : Flat R g) : CR X .Eq R R (fun x y => decide (x = y)) := ⟨_, op_eq, (opU_eq h).g⟩
theorem cr_ne [DecidableEq α] {g : α → V} (h : Flat R g) : CR X .NotEq R R (fun x y => !decide (x = y)) := ⟨_, op_ne, (opU_ne h).g⟩
theorem cr_isb : CR X .Is RBool RBool (fun x y => decide (x = y)) := ⟨_, op_is_bl, OpU.g fun x y v w F H Q hx hy _ q => ⟨x, y, hx, hy, q _ rfl⟩⟩
theorem cr_isnotb : CR X .IsNot RBool RBool (fun x y => !decide (x = y)) := ⟨_, op_isnot_bl, OpU.g fun x y v w F H Q hx hy _ q => ⟨x, y, hx, hy, q _ rfl⟩⟩
theorem cr_isN : CR X .Is (ROpt R) RNon (fun x _ => x.isNone) := ⟨_, op_isN, OpU.g fun x y v w F H Q hx hy _ q => ⟨hy, q _ (by
  show V.bl _ = V.bl _
  congr 1
  cases x with
  | none => have h : v = .non := hx; subst h; rfl
  | some z => exact decide_eq_false hx.1)⟩⟩
theorem cr_notN : CR X .IsNot (ROpt R) RNon (fun x _ => x.isSome) := ⟨_, op_notN, OpU.g fun x y v w F H Q hx hy _ q => ⟨hy, q _ (by
  show V.bl _ = V.bl _
  congr 1
  cases x with
  | none => have h : v = .non := hx; subst h; rfl
  | some z => rw [decide_eq_false hx.1]; rfl)⟩⟩
theorem cr_strlt : CR X .Lt RStr RStr (fun x y => decide (x.cps.toList < y.cps.toList)) := ⟨_, op_lt_str, OpU.g fun x y v w F H Q hx hy _ q => ⟨x, y, hx, hy, q _ rfl⟩⟩

/-! ### == of data -/
/-- a typed value as data, n deep at most -/
structure Dat (K : PySem.W.Frag) (R : α → Pd) (d : α → PyData) (n : Nat) : Prop where
  dp : ∀ x v F, (R x).p v F → Dp K F v (d x)
  lay : ∀ x, (d x).canLay0 = true
  inj : ∀ x y, PyData.eqv (d x) (d y) = true ↔ x = y
  dep : ∀ x, (d x).depth ≤ n
theorem dat_int : Dat K RInt PyData.int 0 := ⟨fun x v F h => by have h : v = .int x := h; subst h; exact .int x, fun _ => rfl, fun x y => by show (x == y) = true ↔ x = y; exact beq_iff_eq, fun _ => Nat.le_refl _⟩
theorem dat_bool : Dat K RBool PyData.bool 0 := ⟨fun x v F h => by have h : v = .bl x := h; subst h; exact .bl x, fun _ => rfl, fun x y => by show (x == y) = true ↔ x = y; exact beq_iff_eq, fun _ => Nat.le_refl _⟩
theorem eqvAll_iff {d : α → PyData} (h : ∀ x y, PyData.eqv (d x) (d y) = true ↔ x = y) : ∀ xs ys : List α, PyData.eqvAll (xs.map d) (ys.map d) = true ↔ xs = ys
  | [], [] => ⟨fun _ => rfl, fun _ => rfl⟩
  | [], _ :: _ => ⟨fun z => (nomatch z), fun z => (nomatch z)⟩
  | _ :: _, [] => ⟨fun z => (nomatch z), fun z => (nomatch z)⟩
  | x :: xs, y :: ys => by
    show (PyData.eqv (d x) (d y) && PyData.eqvAll (xs.map d) (ys.map d)) = true ↔ _
    rw [Bool.and_eq_true, h, eqvAll_iff h xs ys, List.cons.injEq]
theorem canAll {d : α → PyData} (h : ∀ x, (d x).canLay0 = true) : ∀ xs : List α, PyData.canLayAll0 (xs.map d) = true
  | [] => rfl
  | x :: xs => by
    show ((d x).canLay0 && PyData.canLayAll0 (xs.map d)) = true
    rw [h, canAll h xs]; rfl
theorem depAll {d : α → PyData} {n : Nat} (h : ∀ x, (d x).depth ≤ n) : ∀ xs : List α, PyData.depthAll (xs.map d) ≤ n
  | [] => Nat.zero_le _
  | x :: xs => by
    show max (d x).depth (PyData.depthAll (xs.map d)) ≤ n
    exact Nat.max_le.mpr ⟨h x, depAll h xs⟩
theorem dpAll {d : α → PyData} {F : Hp} (h : ∀ x v, (R x).p v F → Dp K F v (d x)) : ∀ {xs : List α} {vs : List V}, AllR R xs vs F → DpAll K F vs (xs.map d)
  | [], [], _ => .nil
  | _ :: _, _ :: _, q => .cons (h _ _ q.1) (dpAll h q.2)
theorem dat_list {d : α → PyData} {n : Nat} (h : Dat K R d n) : Dat K (RList K R) (fun xs => .list (xs.map d)) (n + 1) :=
  ⟨fun x v F ⟨a, vs, h1, h2, h3⟩ => by subst h1; exact .lst h2 (dpAll (fun x v => h.dp x v F) h3), fun x => canAll h.lay x, fun x y => eqvAll_iff h.inj x y, fun x => by
    show PyData.depthAll (x.map d) + 1 ≤ n + 1
    exact Nat.succ_le_succ (depAll h.dep x)⟩
theorem dat_tup {d : α → PyData} {n : Nat} (h : Dat K R d n) : Dat K (RTup K R) (fun xs => .tuple (xs.map d)) (n + 1) :=
  ⟨fun x v F ⟨a, vs, h1, h2, h3⟩ => by subst h1; exact .tup h2 (dpAll (fun x v => h.dp x v F) h3), fun x => canAll h.lay x, fun x y => eqvAll_iff h.inj x y, fun x => by
    show PyData.depthAll (x.map d) + 1 ≤ n + 1
    exact Nat.succ_le_succ (depAll h.dep x)⟩
theorem Dp.same {F H : Hp} (e : Same F H) : (∀ {v : V} {d : PyData}, Dp K F v d → Dp K H v d) := by
  intro v d h
  induction h using Dp.rec (motive_2 := fun vs ds _ => DpAll K H vs ds) with
  | non => exact .non
  | bl b => exact .bl b
  | int i => exact .int i
  | str x => exact .str x
  | lst h1 _ ih => exact .lst (seqL_mono e h1) ih
  | tup h1 _ ih => exact .tup (seqT_mono e h1) ih
  | nil => exact .nil
  | cons _ _ ih1 ih2 => exact .cons ih1 ih2
theorem Dat.sh {d : α → PyData} {n : Nat} (h : Dat K R d n) (hn : n ≤ 64) (x : α) : SeqAt.shaped (d x) = true := by
  unfold SeqAt.shaped
  rw [h.lay, decide_eq_true (Nat.le_trans (h.dep x) hn)]; rfl
theorem Dat.eqv [DecidableEq α] {d : α → PyData} {n : Nat} (h : Dat K R d n) (x y : α) : PyData.eqv (d x) (d y) = decide (x = y) := by
  by_cases e : x = y
  · rw [decide_eq_true e]; exact (h.inj x y).mpr e
  · rw [decide_eq_false e]
    cases q : PyData.eqv (d x) (d y) with
    | false => rfl
    | true => exact absurd ((h.inj x y).mp q) e
theorem cr_eqD [DecidableEq α] {d : α → PyData} {n : Nat} (hK : X.K = K) (hu : X.A.units + 64 < cLine) (h : Dat K R d n) (hn : n ≤ 60 := by decide) : CR X .Eq R R (fun x y => decide (x = y)) := by
  subst hK
  refine ⟨_, op_eqD hu, OpU.g fun x y v w F H Q hx hy e q => ⟨d x, d y, Dp.same e (h.dp _ _ _ hx), Dp.same e (h.dp _ _ _ hy), h.sh (by omega) x, h.sh (by omega) y, ?_⟩⟩
  rw [h.eqv]
  exact q _ rfl
theorem cr_neD [DecidableEq α] {d : α → PyData} {n : Nat} (hK : X.K = K) (hu : X.A.units + 64 < cLine) (h : Dat K R d n) (hn : n ≤ 60 := by decide) : CR X .NotEq R R (fun x y => !decide (x = y)) := by
  subst hK
  refine ⟨_, op_neD hu, OpU.g fun x y v w F H Q hx hy e q => ⟨d x, d y, Dp.same e (h.dp _ _ _ hx), Dp.same e (h.dp _ _ _ hy), h.sh (by omega) x, h.sh (by omega) y, ?_⟩⟩
  rw [h.eqv]
  exact q _ rfl

/-! ### tests, and, or, not, x if c else y -/
variable {mt mt' : S → (Bool → S → Prop) → Prop}
/-- a value as a test: not a comparison, and, or, not -/
theorem tt_val (h : PE X e (tE B Γ RBool mt)) (he : ∀ whole, isTrue e X.env whole = (do let v ← whole; standAt e.pos; holding [v] (truthy v)) := by intro _; rfl) : PT X e (tT B Γ mt) :=
  pt_imp (pt_val h he) fun σ H Q ⟨s, F, K', A, hm, k⟩ => ⟨s, F, _, A, hm, fun x s1 v F1 H1 h1 A1 e1 r1 => ⟨x, r1, k x s1 F1 H1 h1 A1 e1⟩⟩
theorem tt_not (h : PT X e (tT B Γ mt)) : PT X (.UnaryOp .Not e pos) (tT B Γ (fun s K => mt s fun x s1 => K (!x) s1)) :=
  pt_imp (pt_not h) fun σ H Q ⟨s, F, K', A, hm, k⟩ => ⟨s, F, _, A, hm, fun x s1 F1 H1 h1 A1 e1 => k (!x) s1 F1 H1 h1 A1 e1⟩
theorem te_not (h : PE X e (tE B Γ RBool mt)) : PE X (.UnaryOp .Not e pos) (tE B Γ RBool (fun s K => mt s fun x s1 => K (!x) s1)) :=
  pe_imp (pe_not h) fun σ H Q ⟨s, F, K', A, hm, k⟩ => ⟨s, F, _, A, hm, fun x s1 v F1 H1 h1 A1 e1 r1 => ⟨x, r1, k (!x) s1 _ F1 H1 h1 A1 e1 rfl⟩⟩
/-- a value by a test (and, or, not, comparisons stand as values too where they are given so) -/
theorem tw_and1 (h : PT X a (tT B Γ mt)) : PW X (.BoolOp .And [a] pos) (tT B Γ mt) := pw_and1 h
theorem tw_or1 (h : PT X a (tT B Γ mt)) : PW X (.BoolOp .Or [a] pos) (tT B Γ mt) := pw_or1 h
theorem tw_and {rest : List Expr} (h : PT X a (tT B Γ mt)) (h' : PW X (.BoolOp .And (b :: rest) pos) (tT B Γ mt')) : PW X (.BoolOp .And (a :: b :: rest) pos) (tT B Γ (fun s K => mt s fun x s1 => if x = true then mt' s1 K else K false s1)) :=
  pw_imp (pw_and h h') fun σ H Q ⟨s, F, K', A, hm, k⟩ => ⟨s, F, _, A, hm, fun x s1 F1 H1 h1 A1 e1 => by
    cases x with
    | true => exact ⟨s1, F1, _, A1, h1, fun b s2 F2 H2 h2 A2 e2 => k b s2 F2 H2 h2 A2 (e1.trans e2)⟩
    | false => exact k false s1 F1 H1 h1 A1 e1⟩
theorem tw_or {rest : List Expr} (h : PT X a (tT B Γ mt)) (h' : PW X (.BoolOp .Or (b :: rest) pos) (tT B Γ mt')) : PW X (.BoolOp .Or (a :: b :: rest) pos) (tT B Γ (fun s K => mt s fun x s1 => if x = true then K true s1 else mt' s1 K)) :=
  pw_imp (pw_or h h') fun σ H Q ⟨s, F, K', A, hm, k⟩ => ⟨s, F, _, A, hm, fun x s1 F1 H1 h1 A1 e1 => by
    cases x with
    | false => exact ⟨s1, F1, _, A1, h1, fun b s2 F2 H2 h2 A2 e2 => k b s2 F2 H2 h2 A2 (e1.trans e2)⟩
    | true => exact k true s1 F1 H1 h1 A1 e1⟩
theorem tt_w (h : PW X e (tT B Γ mt)) : PT X e (tT B Γ mt) := h.pt
theorem te_and1 (h : PE X a (tE B Γ RBool mt)) {op} : PE X (.BoolOp op [a] pos) (tE B Γ RBool mt) := pe_one h
theorem te_and {rest : List Expr} (h : PE X a (tE B Γ RBool mt)) (h' : PE X (.BoolOp .And (b :: rest) pos) (tE B Γ RBool mt')) : PE X (.BoolOp .And (a :: b :: rest) pos) (tE B Γ RBool (fun s K => mt s fun x s1 => if x = true then mt' s1 K else K false s1)) :=
  pe_imp (pe_and h h') fun σ H Q ⟨s, F, K', A, hm, k⟩ => ⟨s, F, _, A, hm, fun x s1 v F1 H1 h1 A1 e1 r1 => by
    refine ⟨x, r1, ?_⟩
    cases x with
    | true => exact ⟨s1, F1, _, A1, h1, fun b s2 v2 F2 H2 h2 A2 e2 r2 => k b s2 v2 F2 H2 h2 A2 (e1.trans e2) r2⟩
    | false => exact k false s1 _ F1 H1 h1 A1 e1 rfl⟩
theorem te_or {rest : List Expr} (h : PE X a (tE B Γ RBool mt)) (h' : PE X (.BoolOp .Or (b :: rest) pos) (tE B Γ RBool mt')) : PE X (.BoolOp .Or (a :: b :: rest) pos) (tE B Γ RBool (fun s K => mt s fun x s1 => if x = true then K true s1 else mt' s1 K)) :=
  pe_imp (pe_or h h') fun σ H Q ⟨s, F, K', A, hm, k⟩ => ⟨s, F, _, A, hm, fun x s1 v F1 H1 h1 A1 e1 r1 => by
    refine ⟨x, r1, ?_⟩
    cases x with
    | false => exact ⟨s1, F1, _, A1, h1, fun b s2 v2 F2 H2 h2 A2 e2 r2 => k b s2 v2 F2 H2 h2 A2 (e1.trans e2) r2⟩
    | true => exact k true s1 _ F1 H1 h1 A1 e1 rfl⟩
theorem te_if {ma' : S → (α → S → Prop) → Prop} (hc : PT X c (tT B Γ mt)) (ha : PE X a (tE B Γ R ma)) (hb : PE X b (tE B Γ R ma')) : PE X (.IfExp c a b pos) (tE B Γ R (fun s K => mt s fun x s1 => if x = true then ma s1 K else ma' s1 K)) :=
  pe_imp (pe_ifExp hc ha hb) fun σ H Q ⟨s, F, K', A, hm, k⟩ => ⟨s, F, _, A, hm, fun x s1 F1 H1 h1 A1 e1 => by
    cases x with
    | true => exact ⟨s1, F1, _, A1, h1, fun b s2 v2 F2 H2 h2 A2 e2 r2 => k b s2 v2 F2 H2 h2 A2 (e1.trans e2) r2⟩
    | false => exact ⟨s1, F1, _, A1, h1, fun b s2 v2 F2 H2 h2 A2 e2 r2 => k b s2 v2 F2 H2 h2 A2 (e1.trans e2) r2⟩⟩
/-- a < b < c -/
theorem tt_chain {op op' : CmpOp} {f : α → β → Bool} {g : β → γ → Bool} {mc : S → (γ → S → Prop) → Prop} (h : CR X op Ra Rb f) (h' : CR X op' Rb Rc g) (ha : PE X a (tE B Γ Ra ma)) (hb : PE X b (tE B Γ Rb mb)) (hc : PE X c (tE B Γ Rc mc)) (hm : lastMarks [op, op'] [b, c] = false := by with_unfolding_all rfl) :
    PT X (.Compare a [op, op'] [b, c] pos) (tT B Γ (fun s K => ma s fun x s1 => mb s1 fun y s2 => if f x y = true then mc s2 fun z s3 => K (g y z) s3 else K false s2)) := by
  obtain ⟨r, h1, h2⟩ := h
  obtain ⟨r', h1', h2'⟩ := h'
  refine pt_imp (pt_chain h1 h1' ha hb hc hm) fun σ H Q ⟨s, F, K', A, hm, k⟩ => ?_
  exact ⟨s, F, _, A, hm, fun x s1 v F1 H1 q1 A1 e1 r1 => ⟨s1, F1, _, A1, q1, fun y s2 w F2 H2 kk A2 e2 r2 => h2 x y v w F2 H2 _ ((Ra x).mono _ _ _ e2 r1) r2 A2.sub fun F2' H2' z1 z2 z3 z4 => ⟨f x y, rfl, by
    have A2' := A2.grow z1 z2 z3 z4
    cases hf : f x y with
    | true =>
      rw [hf, if_pos rfl] at kk
      rw [if_pos rfl]
      exact ⟨s2, F2', _, A2', kk, fun z s3 u F3 H3 k3 A3 e3 r3 => h2' y z w u F3 H3 _ ((Rb y).mono _ _ _ (z1.trans e3) r2) r3 A3.sub fun F4 H4 y1 y2 y3 y4 => ⟨g y z, rfl, k _ s3 F4 H4 k3 (A3.grow y1 y2 y3 y4) ((((e1.trans e2).trans z1).trans e3).trans y1)⟩⟩
    | false =>
      rw [hf, if_neg Bool.false_ne_true] at kk
      rw [if_neg Bool.false_ne_true]
      exact ⟨false, rfl, k false s2 F2' H2' kk A2' ((e1.trans e2).trans z1)⟩⟩⟩⟩
theorem te_chain {op op' : CmpOp} {f : α → β → Bool} {g : β → γ → Bool} {mc : S → (γ → S → Prop) → Prop} (h : CR X op Ra Rb f) (h' : CR X op' Rb Rc g) (ha : PE X a (tE B Γ Ra ma)) (hb : PE X b (tE B Γ Rb mb)) (hc : PE X c (tE B Γ Rc mc)) (hm : lastMarks [op, op'] [b, c] = false := by with_unfolding_all rfl) :
    PE X (.Compare a [op, op'] [b, c] pos) (tE B Γ RBool (fun s K => ma s fun x s1 => mb s1 fun y s2 => if f x y = true then mc s2 fun z s3 => K (g y z) s3 else K false s2)) := by
  obtain ⟨r, h1, h2⟩ := h
  obtain ⟨r', h1', h2'⟩ := h'
  refine pe_imp (pe_chain h1 h1' ha hb hc hm) fun σ H Q ⟨s, F, K', A, hm, k⟩ => ?_
  exact ⟨s, F, _, A, hm, fun x s1 v F1 H1 q1 A1 e1 r1 => ⟨s1, F1, _, A1, q1, fun y s2 w F2 H2 kk A2 e2 r2 => h2 x y v w F2 H2 _ ((Ra x).mono _ _ _ e2 r1) r2 A2.sub fun F2' H2' z1 z2 z3 z4 => ⟨f x y, rfl, by
    have A2' := A2.grow z1 z2 z3 z4
    cases hf : f x y with
    | true =>
      rw [hf, if_pos rfl] at kk
      rw [if_pos rfl]
      exact ⟨s2, F2', _, A2', kk, fun z s3 u F3 H3 k3 A3 e3 r3 => h2' y z w u F3 H3 _ ((Rb y).mono _ _ _ (z1.trans e3) r2) r3 A3.sub fun F4 H4 y1 y2 y3 y4 => k _ s3 _ F4 H4 k3 (A3.grow y1 y2 y3 y4) ((((e1.trans e2).trans z1).trans e3).trans y1) rfl⟩
    | false =>
      rw [hf, if_neg Bool.false_ne_true] at kk
      rw [if_neg Bool.false_ne_true]
      exact k false s2 _ F2' H2' kk A2' ((e1.trans e2).trans z1) rfl⟩⟩⟩

/-! ### arguments, displays -/
variable {As : ι → List Pd} {mr : S → (ι → S → Prop) → Prop} {es : List Expr}
theorem ta_nil : PA X [] (tA B Γ anil (fun s K => K () s)) := pa_imp pa_nil fun σ H Q ⟨s, F, K', A, hm, k⟩ => k () s [] F H hm A (Same.refl F) trivial
theorem ta_cons (h : PE X e (tE B Γ R m)) (hr : PA X es (tA B Γ As mr)) (hs : starEach (e :: es) X.env = (false, eval e X.env) :: starEach es X.env := by rfl) : PA X (e :: es) (tA B Γ (acons R As) (fun s K => m s fun x s1 => mr s1 fun y s2 => K (x, y) s2)) :=
  pa_imp (pa_cons h hr hs) fun σ H Q ⟨s, F, K', A, hm, k⟩ => ⟨s, F, _, A, hm, fun x s1 v F1 H1 q1 A1 e1 r1 => ⟨s1, F1, _, A1, q1, fun y s2 vs F2 H2 q2 A2 e2 r2 => k (x, y) s2 (v :: vs) F2 H2 q2 A2 (e1.trans e2) ⟨(R x).mono _ _ _ e2 r1, r2⟩⟩⟩
/-- items of one kind -/
def tL {S α : Type} (B : Bs) (Γ : S → List Sl) (R : α → Pd) (m : S → (List α → S → Prop) → Prop) : TA := fun σ H Q =>
  ∃ s F K, At B (Γ s) σ F H ∧ m s K ∧ ∀ xs s' vs F' H', K xs s' → At B (Γ s') σ F' H' → Same F F' → AllR R xs vs F' → Q vs H'
theorem tl_nil : PA X [] (tL B Γ R (fun s K => K [] s)) := pa_imp pa_nil fun σ H Q ⟨s, F, K', A, hm, k⟩ => k [] s [] F H hm A (Same.refl F) trivial
theorem tl_cons {ml : S → (List α → S → Prop) → Prop} (h : PE X e (tE B Γ R m)) (hr : PA X es (tL B Γ R ml)) (hs : starEach (e :: es) X.env = (false, eval e X.env) :: starEach es X.env := by rfl) : PA X (e :: es) (tL B Γ R (fun s K => m s fun x s1 => ml s1 fun y s2 => K (x :: y) s2)) :=
  pa_imp (pa_cons h hr hs) fun σ H Q ⟨s, F, K', A, hm, k⟩ => ⟨s, F, _, A, hm, fun x s1 v F1 H1 q1 A1 e1 r1 => ⟨s1, F1, _, A1, q1, fun y s2 vs F2 H2 q2 A2 e2 r2 => k (x :: y) s2 (v :: vs) F2 H2 q2 A2 (e1.trans e2) ⟨(R x).mono _ _ _ e2 r1, r2⟩⟩⟩
theorem smallLen {n : Nat} (h : n ≤ 1000000) : n ≤ sizeLine := Nat.le_trans h (by decide)
theorem tn_list {ml : S → (List α → S → Prop) → Prop} (h : PA X es (tL B Γ R ml)) : PE X (.List es pos) (tN B Γ R (fun s K => ml s fun xs s1 => xs.length ≤ 1000000 ∧ K xs s1)) :=
  pe_imp (pe_lst h) fun σ H Q ⟨s, F, K', A, hm, k⟩ => ⟨s, F, _, A, hm, fun xs s1 vs F1 H1 ⟨q0, q1⟩ A1 e1 r1 => ⟨by rw [r1.len]; exact smallLen q0, fun p np => by
    have fr := A1.fresh np
    exact k xs s1 p vs F1 _ q1 (A1.layH np) e1 upd_same fr.1 fr.2 (A1.notOwn np) r1⟩⟩
theorem te_tuple {ml : S → (List α → S → Prop) → Prop} {x1} (h : PA X es (tL B Γ R ml)) : PE X (.Tuple es x1 pos) (tE B Γ (RTup K R) (fun s K => ml s fun xs s1 => xs.length ≤ 1000000 ∧ K xs s1)) :=
  pe_imp (pe_tup h) fun σ H Q ⟨s, F, K', A, hm, k⟩ => ⟨s, F, _, A, hm, fun xs s1 vs F1 H1 ⟨q0, q1⟩ A1 e1 r1 => ⟨by rw [r1.len]; exact smallLen q0, fun p np => by
    obtain ⟨A2, e2⟩ := A1.lay (o := .tup vs) np
    exact k xs s1 (.ref p) _ _ q1 A2 (e1.trans e2) ⟨p, vs, rfl, SqT.of upd_same, r1.mono e2⟩⟩⟩
theorem te_pair {x1} (ha : PE X a (tE B Γ Ra ma)) (hb : PE X b (tE B Γ Rb mb)) (hs : starEach [a, b] X.env = (false, eval a X.env) :: starEach [b] X.env := by rfl) (hs2 : starEach [b] X.env = (false, eval b X.env) :: starEach [] X.env := by rfl) :
    PE X (.Tuple [a, b] x1 pos) (tE B Γ (RPair K Ra Rb) (fun s K => ma s fun x s1 => mb s1 fun y s2 => K (x, y) s2)) :=
  pe_imp (pe_tup (ta_cons ha (ta_cons hb ta_nil hs2) hs)) fun σ H Q ⟨s, F, K', A, hm, k⟩ => ⟨s, F, fun x s' => K' (x.1, x.2.1) s', A, hm, fun x s1 vs F1 H1 q1 A1 e1 r1 => by
    obtain ⟨x, y, u⟩ := x
    match vs, r1 with
    | [v1, v2], ⟨r1, r2, _⟩ =>
      refine ⟨by show 2 ≤ sizeLine; decide, fun p np => ?_⟩
      obtain ⟨A2, e2⟩ := A1.lay (o := .tup [v1, v2]) np
      exact k (x, y) s1 (.ref p) _ _ q1 A2 (e1.trans e2) ⟨p, v1, v2, rfl, SqT.of upd_same, (Ra x).mono _ _ _ e2 r1, (Rb y).mono _ _ _ e2 r2⟩⟩
end
end TL
namespace TL
open PySem L2

section
variable {X : Cx} {S : Type} {B : Bs} {Γ : S → List Sl} {K : PySem.W.Frag} {α β γ ι : Type} {R Ra : α → Pd} {Rb : β → Pd} {Rc : γ → Pd} {e a b c : Expr} {pos p : Pos} {x : Str} {idn T : String}
variable {m ma : S → (α → S → Prop) → Prop} {mb : S → (β → S → Prop) → Prop}

/-! ### built-ins of one argument -/
def B1 (r : List V → Hp → VK → Prop) (Ra : α → Pd) (Rc : γ → Pd) (co : α → Prop) (f : α → γ) : Prop := ∀ x v F H (Q : VK), (Ra x).p v F → Same F H → co x → (∀ u, (Rc (f x)).p u F → Q u H) → r [v] H Q
def B1U (r : List V → Hp → VK → Prop) (Ra : α → Pd) (Rc : γ → Pd) (f : α → γ) : Prop := ∀ x v F H (Q : VK), (Ra x).p v F → Same F H → (∀ u, (Rc (f x)).p u F → Q u H) → r [v] H Q
def B1N (r : List V → Hp → VK → Prop) (Ra : α → Pd) (Rc : γ → Pd) (f : α → List γ) : Prop := ∀ x v F H (Q : VK), (Ra x).p v F → Same F H → (∀ p vs, H p = none → AllR Rc (f x) vs F → Q (.ref p) (upd H p (.lst vs))) → r [v] H Q
/-- a tuple, new or not -/
def B1T (K : PySem.W.Frag) (r : List V → Hp → VK → Prop) (Ra : α → Pd) (Rc : γ → Pd) (f : α → List γ) : Prop := ∀ x v F H (Q : VK), (Ra x).p v F → Same F H → (∀ p vs, SqT K F p vs → AllR Rc (f x) vs F → Q (.ref p) H) → (∀ p vs, H p = none → AllR Rc (f x) vs F → Q (.ref p) (upd H p (.tup vs))) → r [v] H Q
theorem tcb_v {r : List V → Hp → VK → Prop} {co : α → Prop} {f : α → γ} (h : B1 r Ra Rc co f) {σ : L2.St} {H : Hp} {Q : VK} (q : tE B Γ Rc (fun s K => ma s fun y s1 => co y ∧ K (f y) s1) σ H Q) : tCB r (tCons (tE B Γ Ra ma) tNil) σ H Q := by
  obtain ⟨s, F, K', A, hm, k⟩ := q
  exact ⟨s, F, _, A, hm, fun y s1 v F1 H1 ⟨h0, h1⟩ A1 e1 r1 => h y v F1 H1 Q r1 A1.sub h0 fun u ru => k _ s1 u F1 H1 h1 A1 e1 ru⟩
theorem tcb_u {r : List V → Hp → VK → Prop} {f : α → γ} (h : B1U r Ra Rc f) {σ : L2.St} {H : Hp} {Q : VK} (q : tE B Γ Rc (fun s K => ma s fun y s1 => K (f y) s1) σ H Q) : tCB r (tCons (tE B Γ Ra ma) tNil) σ H Q := by
  obtain ⟨s, F, K', A, hm, k⟩ := q
  exact ⟨s, F, _, A, hm, fun y s1 v F1 H1 h1 A1 e1 r1 => h y v F1 H1 Q r1 A1.sub fun u ru => k _ s1 u F1 H1 h1 A1 e1 ru⟩
theorem tcb_n {r : List V → Hp → VK → Prop} {f : α → List γ} (h : B1N r Ra Rc f) {σ : L2.St} {H : Hp} {Q : VK} (q : tN B Γ Rc (fun s K => ma s fun y s1 => K (f y) s1) σ H Q) : tCB r (tCons (tE B Γ Ra ma) tNil) σ H Q := by
  obtain ⟨s, F, K', A, hm, k⟩ := q
  exact ⟨s, F, _, A, hm, fun y s1 v F1 H1 h1 A1 e1 r1 => h y v F1 H1 Q r1 A1.sub fun p vs np av => by
    have fr := A1.fresh np
    exact k _ s1 p vs F1 _ h1 (A1.layH np) e1 upd_same fr.1 fr.2 (A1.notOwn np) av⟩
theorem tcb_t {r : List V → Hp → VK → Prop} {f : α → List γ} (h : B1T K r Ra Rc f) {σ : L2.St} {H : Hp} {Q : VK} (q : tE B Γ (RTup K Rc) (fun s K => ma s fun y s1 => K (f y) s1) σ H Q) : tCB r (tCons (tE B Γ Ra ma) tNil) σ H Q := by
  obtain ⟨s, F, K', A, hm, k⟩ := q
  refine ⟨s, F, _, A, hm, fun y s1 v F1 H1 h1 A1 e1 r1 => h y v F1 H1 Q r1 A1.sub (fun p vs ht av => k _ s1 _ F1 H1 h1 A1 e1 ⟨p, vs, rfl, ht, av⟩) fun p vs np av => ?_⟩
  obtain ⟨A2, e2⟩ := A1.lay (o := .tup vs) np
  exact k _ s1 _ _ _ h1 A2 (e1.trans e2) ⟨p, vs, rfl, SqT.of upd_same, av.mono e2⟩
/-- the place of a call of a built-in function, of a built-in type -/
structure BP (X : Cx) (x : Str) (u : Value) : Prop where
  g : Gl X x
  m : X.mg x = none
  v : bootBuiltins x = some u
  n : x ≠ "__name__"
  d : (x == ("__debug__" : Str)) = false
theorem pe_bf {r : List V → Hp → VK → Prop} {t : TA} (P : BP X x (.builtin idn)) (hc : CallR X (.builtin idn) r) (ha : PA X [a] t) (he : starEach [a] X.env = (false, eval a X.env) :: starEach [] X.env := by rfl) (hpl : (backTo pos (starEach [] X.env)).any (·.1) = false := by rfl) :
    PE X (.Call (.Name x p) [a] [] pos) (tCB r t) := pe_callB hc P.g P.m P.v ha P.n P.d he hpl
theorem pe_bt {r : List V → Hp → VK → Prop} {t : TA} (P : BP X x (.type T)) (hc : CallR X (.type T) r) (ha : PA X [a] t) (he : starEach [a] X.env = (false, eval a X.env) :: starEach [] X.env := by rfl) (hpl : (backTo pos (starEach [] X.env)).any (·.1) = false := by rfl) :
    PE X (.Call (.Name x p) [a] [] pos) (tCB r t) := pe_callTy hc P.g P.m P.v ha P.n P.d he hpl
theorem bp_len (hm : X.mg "len" = none) (hg : Gl X "len" := by rfl) : BP X "len" (.builtin "len") := ⟨hg, hm, PySem.boot_len, by decide, by decide⟩
theorem bp_abs (hm : X.mg "abs" = none) (hg : Gl X "abs" := by rfl) : BP X "abs" (.builtin "abs") := ⟨hg, hm, by decide +kernel, by decide, by decide⟩
theorem bp_all (hm : X.mg "all" = none) (hg : Gl X "all" := by rfl) : BP X "all" (.builtin "all") := ⟨hg, hm, by decide +kernel, by decide, by decide⟩
theorem bp_any (hm : X.mg "any" = none) (hg : Gl X "any" := by rfl) : BP X "any" (.builtin "any") := ⟨hg, hm, by decide +kernel, by decide, by decide⟩
theorem bp_sum (hm : X.mg "sum" = none) (hg : Gl X "sum" := by rfl) : BP X "sum" (.builtin "sum") := ⟨hg, hm, by decide +kernel, by decide, by decide⟩
theorem bp_sorted (hm : X.mg "sorted" = none) (hg : Gl X "sorted" := by rfl) : BP X "sorted" (.builtin "sorted") := ⟨hg, hm, by decide +kernel, by decide, by decide⟩
theorem bp_min (hm : X.mg "min" = none) (hg : Gl X "min" := by rfl) : BP X "min" (.builtin "min") := ⟨hg, hm, by decide +kernel, by decide, by decide⟩
theorem bp_max (hm : X.mg "max" = none) (hg : Gl X "max" := by rfl) : BP X "max" (.builtin "max") := ⟨hg, hm, by decide +kernel, by decide, by decide⟩
theorem bp_isi (hm : X.mg "isinstance" = none) (hg : Gl X "isinstance" := by rfl) : BP X "isinstance" (.builtin "isinstance") := ⟨hg, hm, by decide +kernel, by decide, by decide⟩
theorem bp_list (hm : X.mg "list" = none) (hg : Gl X "list" := by rfl) : BP X "list" (.type "list") := ⟨hg, hm, by decide +kernel, by decide, by decide⟩
theorem bp_tuple (hm : X.mg "tuple" = none) (hg : Gl X "tuple" := by rfl) : BP X "tuple" (.type "tuple") := ⟨hg, hm, by decide +kernel, by decide, by decide⟩
theorem bp_int (hm : X.mg "int" = none) (hg : Gl X "int" := by rfl) : BP X "int" (.type "int") := ⟨hg, hm, by decide +kernel, by decide, by decide⟩
theorem bp_bool (hm : X.mg "bool" = none) (hg : Gl X "bool" := by rfl) : BP X "bool" (.type "bool") := ⟨hg, hm, by decide +kernel, by decide, by decide⟩
theorem bp_str (hm : X.mg "str" = none) (hg : Gl X "str" := by rfl) : BP X "str" (.type "str") := ⟨hg, hm, by decide +kernel, by decide, by decide⟩
/-- what has a length -/
def Lens (K : PySem.W.Frag) (R : α → Pd) (n : α → Nat) : Prop := ∀ x v F, (R x).p v F → ∃ q ys, v = .ref q ∧ (SqL K F q ys ∨ SqT K F q ys) ∧ ys.length = n x
theorem lens_list : Lens K (RList K R) List.length := fun x v F ⟨a, vs, h1, h2, h3⟩ => ⟨a, vs, h1, .inl h2, h3.len⟩
theorem lens_tup : Lens K (RTup K R) List.length := fun x v F ⟨a, vs, h1, h2, h3⟩ => ⟨a, vs, h1, .inr h2, h3.len⟩
theorem te_len {n : α → Nat} (P : BP X "len" (.builtin "len")) (hl : Lens K R n) (ha : PE X a (tE B Γ R ma)) (hK : X.K = K := by rfl) (hs : starEach [a] X.env = (false, eval a X.env) :: starEach [] X.env := by rfl) (hpl : (backTo pos (starEach [] X.env)).any (·.1) = false := by rfl) :
    PE X (.Call (.Name "len" p) [a] [] pos) (tE B Γ RInt (fun s K => ma s fun y s1 => K (n y : Int) s1)) := by
  subst hK
  refine pe_imp (pe_bf P call_len_seq (pa_cons ha pa_nil hs) hs hpl) fun _ _ _ q => tcb_u (f := fun y => (n y : Int)) (fun x v F H Q hx e q => ?_) q
  obtain ⟨w, ys, h1, h2, h3⟩ := hl x v F hx
  subst h1
  exact ⟨w, ys, rfl, h2.imp (seqL_mono e) (seqT_mono e), by rw [h3]; exact q _ rfl⟩
theorem te_lenS {ma : S → (Str → S → Prop) → Prop} (P : BP X "len" (.builtin "len")) (ha : PE X a (tE B Γ RStr ma)) (hs : starEach [a] X.env = (false, eval a X.env) :: starEach [] X.env := by rfl) (hpl : (backTo pos (starEach [] X.env)).any (·.1) = false := by rfl) :
    PE X (.Call (.Name "len" p) [a] [] pos) (tE B Γ RInt (fun s K => ma s fun y s1 => y.length ≤ sizeLine ∧ K (y.length : Int) s1)) := by
  refine pe_imp (pe_bf P call_len_str (pa_cons ha pa_nil hs) hs hpl) fun _ _ _ q => tcb_v (co := fun y : Str => y.length ≤ sizeLine) (f := fun y : Str => (y.length : Int)) (fun x v F H Q hx e hc q => ?_) q
  exact ⟨x, by rw [show v = V.str x from hx], hc, q _ rfl⟩
theorem te_abs {ma : S → (Int → S → Prop) → Prop} (P : BP X "abs" (.builtin "abs")) (ha : PE X a (tE B Γ RInt ma)) (hs : starEach [a] X.env = (false, eval a X.env) :: starEach [] X.env := by rfl) (hpl : (backTo pos (starEach [] X.env)).any (·.1) = false := by rfl) :
    PE X (.Call (.Name "abs" p) [a] [] pos) (tE B Γ RInt (fun s K => ma s fun y s1 => K (y.natAbs : Int) s1)) := by
  refine pe_imp (pe_bf P call_abs (pa_cons ha pa_nil hs) hs hpl) fun _ _ _ q => tcb_u (f := fun y : Int => (y.natAbs : Int)) (fun x v F H Q hx e q => ⟨x, by rw [show v = V.int x from hx], ?_⟩) q
  have : (if x < 0 then -x else x) = (x.natAbs : Int) := by split <;> omega
  rw [this]
  exact q _ rfl
theorem te_toint {ma : S → (Int → S → Prop) → Prop} (P : BP X "int" (.type "int")) (ha : PE X a (tE B Γ RInt ma)) (hs : starEach [a] X.env = (false, eval a X.env) :: starEach [] X.env := by rfl) (hpl : (backTo pos (starEach [] X.env)).any (·.1) = false := by rfl) :
    PE X (.Call (.Name "int" p) [a] [] pos) (tE B Γ RInt (fun s K => ma s fun y s1 => K y s1)) :=
  pe_imp (pe_bt P call_int1 (pa_cons ha pa_nil hs) hs hpl) fun _ _ _ q => tcb_u (f := fun y : Int => y) (fun x v F H Q hx e q => .inl ⟨x, by rw [show v = V.int x from hx], q _ rfl⟩) q
theorem te_bint {ma : S → (Bool → S → Prop) → Prop} (P : BP X "int" (.type "int")) (ha : PE X a (tE B Γ RBool ma)) (hs : starEach [a] X.env = (false, eval a X.env) :: starEach [] X.env := by rfl) (hpl : (backTo pos (starEach [] X.env)).any (·.1) = false := by rfl) :
    PE X (.Call (.Name "int" p) [a] [] pos) (tE B Γ RInt (fun s K => ma s fun y s1 => K (if y then 1 else 0) s1)) :=
  pe_imp (pe_bt P call_int1 (pa_cons ha pa_nil hs) hs hpl) fun _ _ _ q => tcb_u (f := fun y : Bool => if y then (1 : Int) else 0) (fun x v F H Q hx e q => .inr ⟨x, by rw [show v = V.bl x from hx], q _ rfl⟩) q
theorem tn_tolist {ma : S → (List α → S → Prop) → Prop} (P : BP X "list" (.type "list")) (ha : PE X a (tE B Γ (RList K R) ma)) (hK : X.K = K := by rfl) (hs : starEach [a] X.env = (false, eval a X.env) :: starEach [] X.env := by rfl) (hpl : (backTo pos (starEach [] X.env)).any (·.1) = false := by rfl) :
    PE X (.Call (.Name "list" p) [a] [] pos) (tN B Γ R (fun s K => ma s fun y s1 => K y s1)) := by
  subst hK
  exact pe_imp (pe_bt P call_list_of (pa_cons ha pa_nil hs) hs hpl) fun _ _ _ q => tcb_n (f := fun y : List α => y) (fun x v F H Q hx e q => by
    obtain ⟨w, vs, h1, h2, h3⟩ := hx
    subst h1
    exact ⟨w, vs, rfl, .inl (seqL_mono e h2), fun l nl => q l vs nl h3⟩) q
theorem tn_tupList {ma : S → (List α → S → Prop) → Prop} (P : BP X "list" (.type "list")) (ha : PE X a (tE B Γ (RTup K R) ma)) (hK : X.K = K := by rfl) (hs : starEach [a] X.env = (false, eval a X.env) :: starEach [] X.env := by rfl) (hpl : (backTo pos (starEach [] X.env)).any (·.1) = false := by rfl) :
    PE X (.Call (.Name "list" p) [a] [] pos) (tN B Γ R (fun s K => ma s fun y s1 => K y s1)) := by
  subst hK
  exact pe_imp (pe_bt P call_list_of (pa_cons ha pa_nil hs) hs hpl) fun _ _ _ q => tcb_n (f := fun y : List α => y) (fun x v F H Q hx e q => by
    obtain ⟨w, vs, h1, h2, h3⟩ := hx
    subst h1
    exact ⟨w, vs, rfl, .inr (seqT_mono e h2), fun l nl => q l vs nl h3⟩) q
theorem te_tuple_l {ma : S → (List α → S → Prop) → Prop} (P : BP X "tuple" (.type "tuple")) (ha : PE X a (tE B Γ (RList K R) ma)) (hK : X.K = K := by rfl) (hs : starEach [a] X.env = (false, eval a X.env) :: starEach [] X.env := by rfl) (hpl : (backTo pos (starEach [] X.env)).any (·.1) = false := by rfl) :
    PE X (.Call (.Name "tuple" p) [a] [] pos) (tE B Γ (RTup K R) (fun s K => ma s fun y s1 => K y s1)) := by
  subst hK
  exact pe_imp (pe_bt P call_tuple_of (pa_cons ha pa_nil hs) hs hpl) fun _ _ _ q => tcb_t (f := fun y : List α => y) (fun x v F H Q hx e _ q => by
    obtain ⟨w, vs, h1, h2, h3⟩ := hx
    subst h1
    exact ⟨w, vs, rfl, .inl ⟨seqL_mono e h2, fun l nl => q l vs nl h3⟩⟩) q
theorem te_tuple_t {ma : S → (List α → S → Prop) → Prop} (P : BP X "tuple" (.type "tuple")) (ha : PE X a (tE B Γ (RTup K R) ma)) (hK : X.K = K := by rfl) (hs : starEach [a] X.env = (false, eval a X.env) :: starEach [] X.env := by rfl) (hpl : (backTo pos (starEach [] X.env)).any (·.1) = false := by rfl) :
    PE X (.Call (.Name "tuple" p) [a] [] pos) (tE B Γ (RTup K R) (fun s K => ma s fun y s1 => K y s1)) := by
  subst hK
  exact pe_imp (pe_bt P call_tuple_of (pa_cons ha pa_nil hs) hs hpl) fun _ _ _ q => tcb_t (f := fun y : List α => y) (fun x v F H Q hx e q _ => by
    obtain ⟨w, vs, h1, h2, h3⟩ := hx
    subst h1
    exact ⟨w, vs, rfl, .inr ⟨seqT_mono e h2, q w vs h2 h3⟩⟩) q
theorem te_all {ma : S → (List Bool → S → Prop) → Prop} (P : BP X "all" (.builtin "all")) (ha : PE X a (tE B Γ (RList K RBool) ma)) (hK : X.K = K := by rfl) (hc : X.calm = true := by rfl) (hs : starEach [a] X.env = (false, eval a X.env) :: starEach [] X.env := by rfl) (hpl : (backTo pos (starEach [] X.env)).any (·.1) = false := by rfl) :
    PE X (.Call (.Name "all" p) [a] [] pos) (tE B Γ RBool (fun s K => ma s fun y s1 => K (y.all id) s1)) := by
  subst hK
  exact pe_imp (pe_bf P (cr_all hc) (pa_cons ha pa_nil hs) hs hpl) fun _ _ _ q => tcb_u (f := fun y : List Bool => y.all id) (fun x v F H Q hx e q => by
    obtain ⟨w, vs, h1, h2, h3⟩ := hx
    subst h1
    have z := AllR.bools.mp h3
    subst z
    exact ⟨w, x, rfl, seqL_mono e h2, q _ rfl⟩) q
theorem te_any {ma : S → (List Bool → S → Prop) → Prop} (P : BP X "any" (.builtin "any")) (ha : PE X a (tE B Γ (RList K RBool) ma)) (hK : X.K = K := by rfl) (hc : X.calm = true := by rfl) (hs : starEach [a] X.env = (false, eval a X.env) :: starEach [] X.env := by rfl) (hpl : (backTo pos (starEach [] X.env)).any (·.1) = false := by rfl) :
    PE X (.Call (.Name "any" p) [a] [] pos) (tE B Γ RBool (fun s K => ma s fun y s1 => K (y.any id) s1)) := by
  subst hK
  exact pe_imp (pe_bf P (cr_any hc) (pa_cons ha pa_nil hs) hs hpl) fun _ _ _ q => tcb_u (f := fun y : List Bool => y.any id) (fun x v F H Q hx e q => by
    obtain ⟨w, vs, h1, h2, h3⟩ := hx
    subst h1
    have z := AllR.bools.mp h3
    subst z
    exact ⟨w, x, rfl, seqL_mono e h2, q _ rfl⟩) q
theorem te_sum {ma : S → (List Int → S → Prop) → Prop} (P : BP X "sum" (.builtin "sum")) (ha : PE X a (tE B Γ (RList K RInt) ma)) (hK : X.K = K := by rfl) (hc : X.calm = true := by rfl) (hs : starEach [a] X.env = (false, eval a X.env) :: starEach [] X.env := by rfl) (hpl : (backTo pos (starEach [] X.env)).any (·.1) = false := by rfl) :
    PE X (.Call (.Name "sum" p) [a] [] pos) (tE B Γ RInt (fun s K => ma s fun y s1 => K y.sum s1)) := by
  subst hK
  exact pe_imp (pe_bf P (cr_sum hc) (pa_cons ha pa_nil hs) hs hpl) fun _ _ _ q => tcb_u (f := fun y : List Int => y.sum) (fun x v F H Q hx e q => by
    obtain ⟨w, vs, h1, h2, h3⟩ := hx
    subst h1
    have z := AllR.ints.mp h3
    subst z
    exact ⟨w, x, rfl, seqL_mono e h2, q _ rfl⟩) q

/-! ### items, slices -/
/-- xs[i] by places as Python counts them -/
def pyAt {α : Type} (xs : List α) (i : Int) : Option α := atI xs i
theorem allR_at {xs : List α} {vs : List V} {F : Hp} {i : Int} {x : α} (h : AllR R xs vs F) (hx : pyAt xs i = some x) : ∃ v, atI vs i = some v ∧ (R x).p v F := by
  unfold pyAt atI at hx
  cases q : ixN xs.length i with
  | none => rw [q] at hx; cases hx
  | some j =>
    rw [q] at hx
    obtain ⟨v, h1, h2⟩ := h.get (i := j) hx
    refine ⟨v, ?_, h2⟩
    unfold atI
    rw [h.len, q]
    exact h1
theorem te_ixL {ma : S → (List α → S → Prop) → Prop} {mb : S → (Int → S → Prop) → Prop} (ha : PE X a (tE B Γ (RList K R) ma)) (hb : PE X b (tE B Γ RInt mb)) (hs : PlainIx b := by exact fun _ _ => rfl) (hK : X.K = K := by rfl) :
    PE X (.Subscript a b pos) (tE B Γ R (fun s K => ma s fun xs s1 => mb s1 fun i s2 => ∃ x, pyAt xs i = some x ∧ K x s2)) := by
  subst hK
  refine pe_imp (pe_ix ix_list ha hb hs) fun σ H Q ⟨s, F, K', A, hm, k⟩ => ⟨s, F, _, A, hm, fun xs s1 v F1 H1 h1 A1 e1 r1 => ⟨s1, F1, _, A1, h1, fun i s2 w F2 H2 ⟨x, hx, kk⟩ A2 e2 r2 => ?_⟩⟩
  obtain ⟨q, vs, rfl, h2, h3⟩ := r1
  obtain ⟨u, hu, ru⟩ := allR_at (h3.mono e2) hx
  exact ⟨q, vs, i, u, rfl, r2, seqL_mono A2.sub (seqL_mono e2 h2), hu, k x s2 u F2 H2 kk A2 (e1.trans e2) ru⟩
theorem te_ixT {ma : S → (List α → S → Prop) → Prop} {mb : S → (Int → S → Prop) → Prop} (ha : PE X a (tE B Γ (RTup K R) ma)) (hb : PE X b (tE B Γ RInt mb)) (hs : PlainIx b := by exact fun _ _ => rfl) (hK : X.K = K := by rfl) :
    PE X (.Subscript a b pos) (tE B Γ R (fun s K => ma s fun xs s1 => mb s1 fun i s2 => ∃ x, pyAt xs i = some x ∧ K x s2)) := by
  subst hK
  refine pe_imp (pe_ix ix_tup ha hb hs) fun σ H Q ⟨s, F, K', A, hm, k⟩ => ⟨s, F, _, A, hm, fun xs s1 v F1 H1 h1 A1 e1 r1 => ⟨s1, F1, _, A1, h1, fun i s2 w F2 H2 ⟨x, hx, kk⟩ A2 e2 r2 => ?_⟩⟩
  obtain ⟨q, vs, rfl, h2, h3⟩ := r1
  obtain ⟨u, hu, ru⟩ := allR_at (h3.mono e2) hx
  exact ⟨q, vs, i, u, rfl, r2, seqT_mono A2.sub (seqT_mono e2 h2), hu, k x s2 u F2 H2 kk A2 (e1.trans e2) ru⟩
theorem te_fst {ma : S → (α × β → S → Prop) → Prop} (ha : PE X a (tE B Γ (RPair K Ra Rb) ma)) {j pb} (hs : PlainIx (.Constant (.int 0) j pb) := by exact fun _ _ => rfl) (hK : X.K = K := by rfl) :
    PE X (.Subscript a (.Constant (.int 0) j pb) pos) (tE B Γ Ra (fun s K => ma s fun x s1 => K x.1 s1)) := by
  subst hK
  refine pe_imp (pe_ix ix_tup ha pe_int hs) fun σ H Q ⟨s, F, K', A, hm, k⟩ => ⟨s, F, _, A, hm, fun x s1 v F1 H1 h1 A1 e1 r1 => ?_⟩
  obtain ⟨q, v1, v2, rfl, h2, h3, h4⟩ := r1
  exact ⟨q, _, 0, v1, rfl, rfl, seqT_mono A1.sub h2, rfl, k _ s1 v1 F1 H1 h1 A1 e1 h3⟩
theorem te_snd {ma : S → (α × β → S → Prop) → Prop} (ha : PE X a (tE B Γ (RPair K Ra Rb) ma)) {j pb} (hs : PlainIx (.Constant (.int 1) j pb) := by exact fun _ _ => rfl) (hK : X.K = K := by rfl) :
    PE X (.Subscript a (.Constant (.int 1) j pb) pos) (tE B Γ Rb (fun s K => ma s fun x s1 => K x.2 s1)) := by
  subst hK
  refine pe_imp (pe_ix ix_tup ha pe_int hs) fun σ H Q ⟨s, F, K', A, hm, k⟩ => ⟨s, F, _, A, hm, fun x s1 v F1 H1 h1 A1 e1 r1 => ?_⟩
  obtain ⟨q, v1, v2, rfl, h2, h3, h4⟩ := r1
  exact ⟨q, _, 1, v2, rfl, rfl, seqT_mono A1.sub h2, rfl, k _ s1 v2 F1 H1 h1 A1 e1 h4⟩
/-- xs[lo:hi] -/
def pyCut {α : Type} (xs : List α) (lo hi : Option Int) : List α := (xs.drop (HT.sIx xs.length 0 lo)).take (HT.sIx xs.length xs.length hi - HT.sIx xs.length 0 lo)
theorem allR_cut {xs : List α} {vs : List V} {F : Hp} (h : AllR R xs vs F) (lo hi : Option Int) : AllR R (pyCut xs lo hi) (cutV vs lo hi) F := by
  unfold pyCut cutV
  rw [h.len]
  exact (h.drop _).take _
variable {mo mo' : S → (Option Int → S → Prop) → Prop} {lo hi : Option Expr} {p2 : Pos}
theorem to_none : PO X none (tO B Γ (fun s K => K none s)) := po_imp po_none fun σ H Q ⟨s, F, K', A, hm, k⟩ => k none s F H hm A (Same.refl F)
theorem to_some {ma : S → (Int → S → Prop) → Prop} (h : PE X e (tE B Γ RInt ma)) : PO X (some e) (tO B Γ (fun s K => ma s fun i s1 => K (some i) s1)) :=
  po_imp (po_some h) fun σ H Q ⟨s, F, K', A, hm, k⟩ => ⟨s, F, _, A, hm, fun i s1 v F1 H1 h1 A1 e1 r1 => ⟨i, r1, k (some i) s1 F1 H1 h1 A1 e1⟩⟩
theorem tn_cut {ma : S → (List α → S → Prop) → Prop} (ha : PE X a (tE B Γ (RList K R) ma)) (hl : PO X lo (tO B Γ mo)) (hh : PO X hi (tO B Γ mo')) (hK : X.K = K := by rfl) :
    PE X (.Subscript a (.Slice lo hi none p2) pos) (tN B Γ R (fun s K => ma s fun xs s1 => mo s1 fun l s2 => mo' s2 fun h s3 => K (pyCut xs l h) s3)) := by
  subst hK
  refine pe_imp (pe_slice sl_list ha hl hh) fun σ H Q ⟨s, F, K', A, hm, k⟩ => ⟨s, F, _, A, hm, fun xs s1 v F1 H1 h1 A1 e1 r1 => ⟨s1, F1, _, A1, h1, fun l s2 F2 H2 h2 A2 e2 => ⟨s2, F2, _, A2, h2, fun u s3 F3 H3 h3 A3 e3 => ?_⟩⟩⟩
  obtain ⟨q, vs, rfl, hq, av⟩ := r1
  refine ⟨q, vs, rfl, seqL_mono A3.sub (seqL_mono e3 (seqL_mono e2 hq)), fun p np => ?_⟩
  have fr := A3.fresh np
  exact k _ s3 p _ F3 _ h3 (A3.layH np) ((e1.trans e2).trans e3) upd_same fr.1 fr.2 (A3.notOwn np) (allR_cut ((av.mono e2).mono e3) l u)
theorem te_cutT {ma : S → (List α → S → Prop) → Prop} (ha : PE X a (tE B Γ (RTup K R) ma)) (hl : PO X lo (tO B Γ mo)) (hh : PO X hi (tO B Γ mo')) (hK : X.K = K := by rfl) :
    PE X (.Subscript a (.Slice lo hi none p2) pos) (tE B Γ (RTup K R) (fun s K => ma s fun xs s1 => mo s1 fun l s2 => mo' s2 fun h s3 => K (pyCut xs l h) s3)) := by
  subst hK
  refine pe_imp (pe_slice sl_tupA ha hl hh) fun σ H Q ⟨s, F, K', A, hm, k⟩ => ⟨s, F, _, A, hm, fun xs s1 v F1 H1 h1 A1 e1 r1 => ⟨s1, F1, _, A1, h1, fun l s2 F2 H2 h2 A2 e2 => ⟨s2, F2, _, A2, h2, fun u s3 F3 H3 h3 A3 e3 => ?_⟩⟩⟩
  obtain ⟨q, vs, rfl, hq, av⟩ := r1
  have hq3 := seqT_mono e3 (seqT_mono e2 hq)
  have av3 := (av.mono e2).mono e3
  refine ⟨q, vs, rfl, seqT_mono A3.sub hq3, fun hw => ?_, fun _ p np => ?_⟩
  · refine k _ s3 _ F3 H3 h3 A3 ((e1.trans e2).trans e3) ⟨q, vs, rfl, hq3, ?_⟩
    have := allR_cut av3 l u
    unfold cutV at this
    rw [hw.1, hw.2, List.drop_zero, Nat.sub_zero, List.take_length] at this
    exact this
  · obtain ⟨A4, e4⟩ := A3.lay (o := .tup (cutV vs l u)) np
    exact k _ s3 _ _ _ h3 A4 (((e1.trans e2).trans e3).trans e4) ⟨p, _, rfl, SqT.of upd_same, (allR_cut av3 l u).mono e4⟩
theorem tn_rev {ma : S → (List α → S → Prop) → Prop} {k1 p1 p3} (ha : PE X a (tE B Γ (RList K R) ma)) (hK : X.K = K := by rfl) :
    PE X (.Subscript a (.Slice none none (some (.UnaryOp .USub (.Constant (.int 1) k1 p1) p2)) p3) pos) (tN B Γ R (fun s K => ma s fun xs s1 => K xs.reverse s1)) := by
  subst hK
  refine pe_imp (pe_revL ha) fun σ H Q ⟨s, F, K', A, hm, k⟩ => ⟨s, F, _, A, hm, fun xs s1 v F1 H1 h1 A1 e1 r1 => ?_⟩
  obtain ⟨q, vs, rfl, hq, av⟩ := r1
  refine ⟨q, vs, rfl, seqL_mono A1.sub hq, fun p np => ?_⟩
  have fr := A1.fresh np
  exact k _ s1 p _ F1 _ h1 (A1.layH np) e1 upd_same fr.1 fr.2 (A1.notOwn np) av.reverse

/-! ### put behind one another, so many times -/
theorem tn_cat {ma mb : S → (List α → S → Prop) → Prop} (ha : PE X a (tE B Γ (RLst R) ma)) (hb : PE X b (tE B Γ (RLst R) mb)) :
    PE X (.BinOp a .Add b pos) (tN B Γ R (fun s K => ma s fun x s1 => mb s1 fun y s2 => x.length + y.length ≤ 1000000 ∧ K (x ++ y) s2)) :=
  tn_op (Ra := RLst R) (Rb := RLst R) (Rc := R) (f := fun x y => x ++ y) (co := fun x y : List α => x.length + y.length ≤ 1000000) op_cat (fun x y v w F H Q ⟨q1, vs, h1, h2, h3⟩ ⟨q2, ws, k1, k2, k3⟩ e hc q => by
    subst h1; subst k1
    exact ⟨q1, q2, vs, ws, rfl, rfl, e _ _ h2, e _ _ k2, by rw [h3.len, k3.len]; exact smallLen hc, fun p np => q p _ np (h3.append k3)⟩) ha hb
theorem te_catT {ma mb : S → (List α → S → Prop) → Prop} (ha : PE X a (tE B Γ (RTup K R) ma)) (hb : PE X b (tE B Γ (RTup K R) mb)) (hK : X.K = K := by rfl) :
    PE X (.BinOp a .Add b pos) (tE B Γ (RTup K R) (fun s K => ma s fun x s1 => mb s1 fun y s2 => x.length + y.length ≤ 1000000 ∧ K (x ++ y) s2)) := by
  subst hK
  refine pe_imp (pe_op op_catA ha hb) fun σ H Q ⟨s, F, K', A, hm, k⟩ => ⟨s, F, _, A, hm, fun xs s1 v F1 H1 h1 A1 e1 r1 => ⟨s1, F1, _, A1, h1, fun ys s2 w F2 H2 ⟨hc, h2⟩ A2 e2 r2 => ?_⟩⟩
  obtain ⟨q1, vs, rfl, hq, av⟩ := r1
  obtain ⟨q2, ws, rfl, hq2, aw⟩ := r2
  have hq := seqT_mono e2 hq
  have av := av.mono e2
  have ac := av.append aw
  refine ⟨q1, q2, vs, ws, rfl, rfl, seqT_mono A2.sub hq, seqT_mono A2.sub hq2, by rw [av.len, aw.len]; exact smallLen hc, fun z => ?_, fun _ z => ?_, fun _ _ p np => ?_⟩
  · subst z
    exact k _ s2 _ F2 H2 h2 A2 (e1.trans e2) ⟨q2, ws, rfl, hq2, ac⟩
  · subst z
    rw [List.append_nil] at ac
    exact k _ s2 _ F2 H2 h2 A2 (e1.trans e2) ⟨q1, vs, rfl, hq, ac⟩
  · obtain ⟨A3, e3⟩ := A2.lay (o := .tup (vs ++ ws)) np
    exact k _ s2 _ _ _ h2 A3 ((e1.trans e2).trans e3) ⟨p, _, rfl, SqT.of upd_same, ac.mono e3⟩
def pyRep {α : Type} (xs : List α) (k : Int) : List α := (List.replicate k.toNat xs).flatten
theorem tn_rep {ma : S → (List α → S → Prop) → Prop} {mb : S → (Int → S → Prop) → Prop} (ha : PE X a (tE B Γ (RLst R) ma)) (hb : PE X b (tE B Γ RInt mb)) :
    PE X (.BinOp a .Mult b pos) (tN B Γ R (fun s K => ma s fun x s1 => mb s1 fun y s2 => (-(2 ^ 63) ≤ y ∧ y < 2 ^ 63 ∧ x.length * y.toNat ≤ 1000000) ∧ K (pyRep x y) s2)) :=
  tn_op (Ra := RLst R) (Rb := RInt) (Rc := R) (f := fun x y => pyRep x y) (co := fun (x : List α) (y : Int) => -(2 ^ 63) ≤ y ∧ y < 2 ^ 63 ∧ x.length * y.toNat ≤ 1000000) op_rep (fun x y v w F H Q ⟨q1, vs, h1, h2, h3⟩ hy e hc q => by
    subst h1
    have hy : w = V.int y := hy
    subst hy
    exact ⟨q1, y, vs, rfl, rfl, e _ _ h2, hc.1, hc.2.1, by rw [h3.len]; exact smallLen hc.2.2, fun p np => q p _ np (h3.rep _)⟩) ha hb
end
end TL
namespace TL
open PySem L2

/-! ### the mirrors of loops -/
def mMap {α β : Type} : List α → (α → (β → Prop) → Prop) → (List β → Prop) → Prop
  | [], _, K => K []
  | x :: xs, f, K => f x fun y => mMap xs f fun ys => K (y :: ys)
def mMapIf {α β : Type} : List α → (α → (Bool → Prop) → Prop) → (α → (β → Prop) → Prop) → (List β → Prop) → Prop
  | [], _, _, K => K []
  | x :: xs, t, f, K => t x fun b => if b = true then f x fun y => mMapIf xs t f fun ys => K (y :: ys) else mMapIf xs t f K
def mFor {α S : Type} : List α → (α → S → (S → Prop) → Prop) → S → (S → Prop) → Prop
  | [], _, s, K => K s
  | x :: xs, f, s, K => f x s fun s' => mFor xs f s' K
def mWhile {S : Type} (t : S → (Bool → S → Prop) → Prop) (f : S → (S → Prop) → Prop) (s : S) (K : S → Prop) : Prop :=
  ∃ W : Nat → S → Prop, (∃ n, W n s) ∧ ∀ n s, W n s → t s fun b s1 => if b = true then f s1 fun s2 => ∃ n', n' < n ∧ W n' s2 else K s1
def mIf {S : Type} (b : Bool) (f g : (S → Prop) → Prop) (K : S → Prop) : Prop := if b = true then f K else g K

theorem mMapIf_true {α β : Type} {f : α → (β → Prop) → Prop} : ∀ {xs : List α} {K : List β → Prop}, mMap xs f K = mMapIf xs (fun _ K => K true) f K
  | [], _ => rfl
  | x :: xs, K => by
    show f x (fun y => mMap xs f fun ys => K (y :: ys)) = (if true = true then f x (fun y => mMapIf xs (fun _ K => K true) f fun ys => K (y :: ys)) else mMapIf xs (fun _ K => K true) f K)
    rw [if_pos rfl]
    congr 1
    funext y
    exact mMapIf_true

/-! ### what is walked -/
def Src {α : Type} (J : It) (F : Hp) (R : α → Pd) (xs : List α) : Prop := ∀ F1 H1, Same F F1 → Same F1 H1 →
  (∀ i, xs.length ≤ i → J.stop i H1) ∧ (∀ i, i < xs.length → J.go i H1) ∧
  ∀ i x v H2, xs[i]? = some x → J.yld i H1 v H2 → ∃ F2, Same F1 F2 ∧ Same H1 H2 ∧ Same F2 H2 ∧ Nw F1 H1 F2 ∧ (R x).p v F2
def tI {S α : Type} (B : Bs) (Γ : S → List Sl) (R : α → Pd) (m : S → (List α → S → Prop) → Prop) : TI := fun σ H Rk =>
  ∃ s F K, At B (Γ s) σ F H ∧ m s K ∧ ∀ xs s' J F' H', K xs s' → At B (Γ s') σ F' H' → Same F F' → Src J F' R xs → Rk J H'
theorem src_list {K : PySem.W.Frag} {α : Type} {R : α → Pd} {F : Hp} {a : Addr} {vs : List V} {xs : List α} (h : SqL K F a vs) (av : AllR R xs vs F) : Src (Itl K a) F R xs := fun F1 H1 e1 e2 => by
  have h1 : SqL K H1 a vs := seqL_mono e2 (seqL_mono e1 h)
  refine ⟨fun i hi => ⟨vs, h1, by rw [av.len]; exact hi⟩, fun i hi => ?_, fun i x v H2 hx hy => ?_⟩
  · obtain ⟨v, hv, _⟩ := av.get (List.getElem?_eq_getElem hi)
    exact ⟨vs, v, h1, hv⟩
  · obtain ⟨w, hw, rw'⟩ := av.get hx
    obtain ⟨e, y⟩ := hy
    subst e
    have := (y vs h1).symm.trans hw
    cases this
    exact ⟨F1, Same.refl _, Same.refl _, e2, Nw.refl, (R x).mono _ _ _ e1 rw'⟩
theorem src_tup {K : PySem.W.Frag} {α : Type} {R : α → Pd} {F : Hp} {a : Addr} {vs : List V} {xs : List α} (h : SqT K F a vs) (av : AllR R xs vs F) : Src (Itt K a) F R xs := fun F1 H1 e1 e2 => by
  have h1 : SqT K H1 a vs := seqT_mono e2 (seqT_mono e1 h)
  refine ⟨fun i hi => ⟨vs, h1, by rw [av.len]; exact hi⟩, fun i hi => ?_, fun i x v H2 hx hy => ?_⟩
  · obtain ⟨v, hv, _⟩ := av.get (List.getElem?_eq_getElem hi)
    exact ⟨vs, v, h1, hv⟩
  · obtain ⟨w, hw, rw'⟩ := av.get hx
    obtain ⟨e, y⟩ := hy
    subst e
    have := (y vs h1).symm.trans hw
    cases this
    exact ⟨F1, Same.refl _, Same.refl _, e2, Nw.refl, (R x).mono _ _ _ e1 rw'⟩
/-- lo, lo + 1, .. below hi -/
def rangeL (lo hi : Int) : List Int := (List.range (hi - lo).toNat).map fun i => lo + (i : Nat)
theorem rangeL_len (lo hi : Int) : (rangeL lo hi).length = (hi - lo).toNat := by unfold rangeL; rw [List.length_map, List.length_range]
theorem src_range {F : Hp} {lo hi : Int} {n : Nat} (hn : n = (hi - lo).toNat) : Src (Itr lo n) F RInt (rangeL lo hi) := fun F1 H1 e1 e2 => by
  subst hn
  refine ⟨fun i hi' => by rw [rangeL_len] at hi'; exact hi', fun i hi' => by rw [rangeL_len] at hi'; exact hi', fun i x v H2 hx hy => ?_⟩
  obtain ⟨e, y⟩ := hy
  subst e
  refine ⟨F1, Same.refl _, Same.refl _, e2, Nw.refl, ?_⟩
  unfold rangeL at hx
  rw [List.getElem?_map] at hx
  cases q : (List.range (hi - lo).toNat)[i]? with
  | none => rw [q] at hx; cases hx
  | some j =>
    rw [q] at hx
    have hj : j = i := by
      obtain ⟨h1, h2⟩ := List.getElem?_eq_some_iff.mp q
      rw [List.getElem_range] at h2
      exact h2.symm
    cases hx
    subst hj
    exact y
theorem zipGet {α β : Type} : ∀ {xs : List α} {ys : List β} {i : Nat} {z : α × β}, (xs.zip ys)[i]? = some z → xs[i]? = some z.1 ∧ ys[i]? = some z.2
  | x :: xs, y :: ys, 0, z, h => by simp at h; subst h; exact ⟨rfl, rfl⟩
  | x :: xs, y :: ys, i + 1, z, h => by
    have := zipGet (i := i) (xs := xs) (ys := ys) (z := z) (by simpa using h)
    simpa using this
  | [], _, i, z, h => by simp at h
  | _ :: _, [], i, z, h => by simp at h
theorem newPair {K : PySem.W.Frag} {α β : Type} {Ra : α → Pd} {Rb : β → Pd} {F1 H1 : Hp} {T : Addr} {x : α} {y : β} {v w : V} (e2 : Same F1 H1) (nT : H1 T = none) (hv : (Ra x).p v F1) (hw : (Rb y).p w F1) :
    ∃ F2, Same F1 F2 ∧ Same H1 (upd H1 T (.tup [v, w])) ∧ Same F2 (upd H1 T (.tup [v, w])) ∧ Nw F1 H1 F2 ∧ (RPair K Ra Rb (x, y)).p (.ref T) F2 := by
  have fT : F1 T = none := by
    cases q : F1 T with
    | none => rfl
    | some o => rw [e2 _ _ q] at nT; cases nT
  refine ⟨upd F1 T (.tup [v, w]), same_upd fT, same_upd nT, fun a u g => ?_, fun a u g => ?_, ⟨T, v, w, rfl, SqT.of upd_same, (Ra x).mono _ _ _ (same_upd fT) hv, (Rb y).mono _ _ _ (same_upd fT) hw⟩⟩
  · by_cases ha : a = T
    · subst ha; rw [upd_same] at g ⊢; exact g
    · rw [upd_ne ha] at g ⊢; exact e2 _ _ g
  · by_cases ha : a = T
    · subst ha; exact .inr nT
    · rw [upd_ne ha] at g; exact .inl g
theorem src_zipT {K : PySem.W.Frag} {α β : Type} {Ra : α → Pd} {Rb : β → Pd} {F : Hp} {a b : Addr} {vs ws : List V} {xs : List α} {ys : List β} (h : SqT K F a vs) (av : AllR Ra xs vs F) (h' : SqT K F b ws) (aw : AllR Rb ys ws F) : Src (RZ.ItzT K a b) F (RPair K Ra Rb) (xs.zip ys) := fun F1 H1 e1 e2 => by
  have h1 : SqT K H1 a vs := seqT_mono e2 (seqT_mono e1 h)
  have h2 : SqT K H1 b ws := seqT_mono e2 (seqT_mono e1 h')
  refine ⟨fun i hi => ⟨vs, ws, h1, h2, ?_⟩, fun i hi => ?_, fun i z v H2 hx hy => ?_⟩
  · rw [List.length_zip] at hi
    rw [av.len, aw.len]; omega
  · rw [List.length_zip] at hi
    obtain ⟨v, hv, _⟩ := av.get (List.getElem?_eq_getElem (show i < xs.length by omega))
    obtain ⟨w, hw, _⟩ := aw.get (List.getElem?_eq_getElem (show i < ys.length by omega))
    exact ⟨vs, ws, v, w, h1, h2, hv, hw⟩
  · obtain ⟨hx1, hx2⟩ := zipGet hx
    obtain ⟨v1, hv, rv⟩ := av.get hx1
    obtain ⟨w1, hw, rw'⟩ := aw.get hx2
    obtain ⟨T, x', y', ev, nT, eH, y1, y2⟩ := hy
    have q1 := (y1 vs h1).symm.trans hv
    have q2 := (y2 ws h2).symm.trans hw
    cases q1; cases q2
    subst ev; subst eH
    exact newPair e2 nT ((Ra _).mono _ _ _ e1 rv) ((Rb _).mono _ _ _ e1 rw')
theorem src_zip {K : PySem.W.Frag} {α β : Type} {Ra : α → Pd} {Rb : β → Pd} {F : Hp} {a b : Addr} {vs ws : List V} {xs : List α} {ys : List β} (h : SqL K F a vs) (av : AllR Ra xs vs F) (h' : SqL K F b ws) (aw : AllR Rb ys ws F) : Src (Itz K a b) F (RPair K Ra Rb) (xs.zip ys) := fun F1 H1 e1 e2 => by
  have h1 : SqL K H1 a vs := seqL_mono e2 (seqL_mono e1 h)
  have h2 : SqL K H1 b ws := seqL_mono e2 (seqL_mono e1 h')
  refine ⟨fun i hi => ⟨vs, ws, h1, h2, ?_⟩, fun i hi => ?_, fun i z v H2 hx hy => ?_⟩
  · rw [List.length_zip] at hi
    rw [av.len, aw.len]; omega
  · rw [List.length_zip] at hi
    obtain ⟨v, hv, _⟩ := av.get (List.getElem?_eq_getElem (show i < xs.length by omega))
    obtain ⟨w, hw, _⟩ := aw.get (List.getElem?_eq_getElem (show i < ys.length by omega))
    exact ⟨vs, ws, v, w, h1, h2, hv, hw⟩
  · obtain ⟨hx1, hx2⟩ := zipGet hx
    obtain ⟨v1, hv, rv⟩ := av.get hx1
    obtain ⟨w1, hw, rw'⟩ := aw.get hx2
    obtain ⟨T, x', y', ev, nT, eH, y1, y2⟩ := hy
    have q1 := (y1 vs h1).symm.trans hv
    have q2 := (y2 ws h2).symm.trans hw
    cases q1; cases q2
    subst ev; subst eH
    exact newPair e2 nT ((Ra _).mono _ _ _ e1 rv) ((Rb _).mono _ _ _ e1 rw')
/-- (0, x), (1, y), .. -/
def enumL {α : Type} (xs : List α) : List (Int × α) := (rangeL 0 xs.length).zip xs
theorem src_enum {K : PySem.W.Frag} {α : Type} {Ra : α → Pd} {F : Hp} {a : Addr} {vs : List V} {xs : List α} (h : SqL K F a vs) (av : AllR Ra xs vs F) : Src (Ite K a) F (RPair K RInt Ra) (enumL xs) := fun F1 H1 e1 e2 => by
  have h1 : SqL K H1 a vs := seqL_mono e2 (seqL_mono e1 h)
  have hl : (enumL xs).length = xs.length := by unfold enumL; rw [List.length_zip, rangeL_len]; omega
  refine ⟨fun i hi => ⟨vs, h1, by rw [av.len, ← hl]; exact hi⟩, fun i hi => ?_, fun i z v H2 hx hy => ?_⟩
  · rw [hl] at hi
    obtain ⟨v, hv, _⟩ := av.get (List.getElem?_eq_getElem hi)
    exact ⟨vs, v, h1, hv⟩
  · obtain ⟨hx1, hx2⟩ := zipGet hx
    obtain ⟨v1, hv, rv⟩ := av.get hx2
    obtain ⟨T, x', ev, nT, eH, y1⟩ := hy
    have q1 := (y1 vs h1).symm.trans hv
    cases q1
    have hz : z.1 = (i : Int) := by
      unfold rangeL at hx1
      rw [List.getElem?_map] at hx1
      cases q : (List.range (((xs.length : Nat) : Int) - 0).toNat)[i]? with
      | none => rw [q] at hx1; cases hx1
      | some j =>
        rw [q] at hx1
        obtain ⟨g1, g2⟩ := List.getElem?_eq_some_iff.mp q
        rw [List.getElem_range] at g2
        have hq : (0 : Int) + (j : Nat) = z.1 := Option.some.inj hx1
        omega
    subst ev; subst eH
    refine newPair e2 nT ?_ ((Ra _).mono _ _ _ e1 rv)
    show V.int _ = V.int _
    rw [hz]

section
variable {X : Cx} {S S' : Type} {B : Bs} {Γ : S → List Sl} {K : PySem.W.Frag} {α β γ ι : Type} {R Ra : α → Pd} {Rb : β → Pd} {Rc : γ → Pd} {e a b c tg : Expr} {pos p : Pos} {x : Str}
variable {m ma : S → (α → S → Prop) → Prop} {mb : S → (β → S → Prop) → Prop}
theorem ti_list {m : S → (List α → S → Prop) → Prop} (h : PE X e (tE B Γ (RList K R) m)) (hK : X.K = K := by rfl) : PI X tg e (tI B Γ R m) := by
  subst hK
  exact pi_imp (pi_list h) fun σ H Rk ⟨s, F, K', A, hm, k⟩ => ⟨s, F, _, A, hm, fun xs s1 v F1 H1 h1 A1 e1 ⟨q, vs, ev, hq, av⟩ => ⟨q, ev, ⟨vs, seqL_mono A1.sub hq⟩, k xs s1 _ F1 H1 h1 A1 e1 (src_list hq av)⟩⟩
theorem ti_tup {m : S → (List α → S → Prop) → Prop} (h : PE X e (tE B Γ (RTup K R) m)) (hK : X.K = K := by rfl) : PI X tg e (tI B Γ R m) := by
  subst hK
  exact pi_imp (pi_tup h) fun σ H Rk ⟨s, F, K', A, hm, k⟩ => ⟨s, F, _, A, hm, fun xs s1 v F1 H1 h1 A1 e1 ⟨q, vs, ev, hq, av⟩ => ⟨q, ev, ⟨vs, seqT_mono A1.sub hq⟩, k xs s1 _ F1 H1 h1 A1 e1 (src_tup hq av)⟩⟩
theorem ti_range1 {ma : S → (Int → S → Prop) → Prop} (hm : X.mg "range" = none) (h : PE X a (tE B Γ RInt ma)) (hg : Gl X "range" := by rfl) (hs : starEach [a] X.env = [(false, eval a X.env)] := by rfl) :
    PI X tg (.Call (.Name "range" p) [a] [] pos) (tI B Γ RInt (fun s K => ma s fun n s1 => (-(2 ^ 62) ≤ n ∧ n < 2 ^ 62) ∧ K (rangeL 0 n) s1)) :=
  pi_imp (pi_range1 hg hm (pa_cons h pa_nil hs) hs) fun σ H Rk ⟨s, F, K', A, hm, k⟩ => ⟨s, F, _, A, hm, fun n s1 v F1 H1 ⟨h0, h1⟩ A1 e1 r1 => by
    have r1 : v = V.int n := r1
    subst r1
    exact ⟨n, rfl, h0.1, h0.2, k _ s1 _ F1 H1 h1 A1 e1 (src_range (by omega))⟩⟩
theorem ti_range2 {ma mb : S → (Int → S → Prop) → Prop} (hm : X.mg "range" = none) (h : PE X a (tE B Γ RInt ma)) (h' : PE X b (tE B Γ RInt mb)) (hg : Gl X "range" := by rfl) (hs : starEach [a, b] X.env = [(false, eval a X.env), (false, eval b X.env)] := by rfl) (hs2 : starEach [b] X.env = [(false, eval b X.env)] := by rfl) :
    PI X tg (.Call (.Name "range" p) [a, b] [] pos) (tI B Γ RInt (fun s K => ma s fun n s1 => mb s1 fun j s2 => (-(2 ^ 62) ≤ n ∧ n < 2 ^ 62 ∧ -(2 ^ 62) ≤ j ∧ j < 2 ^ 62) ∧ K (rangeL n j) s2)) :=
  pi_imp (pi_range2 hg hm (pa_cons h (pa_cons h' pa_nil (by rw [hs2]; rfl)) (by rw [hs, hs2])) hs hs2) fun σ H Rk ⟨s, F, K', A, hm, k⟩ => ⟨s, F, _, A, hm, fun n s1 v F1 H1 h1 A1 e1 r1 => ⟨s1, F1, _, A1, h1, fun j s2 w F2 H2 ⟨h0, h2⟩ A2 e2 r2 => by
    have r1 : v = V.int n := r1
    have r2 : w = V.int j := r2
    subst r1; subst r2
    exact ⟨n, j, rfl, h0, k _ s2 _ F2 H2 h2 A2 (e1.trans e2) (src_range rfl)⟩⟩⟩
theorem ti_enum {ma : S → (List α → S → Prop) → Prop} {elts : List Expr} {kk : Nat} {tpos : Pos} (hm : X.mg "enumerate" = none) (h : PE X a (tE B Γ (RList K R) ma)) (hK : X.K = K := by rfl) (hg : Gl X "enumerate" := by rfl) (hs : starEach [a] X.env = [(false, eval a X.env)] := by rfl) :
    PI X (.Tuple elts kk tpos) (.Call (.Name "enumerate" p) [a] [] pos) (tI B Γ (RPair K RInt R) (fun s K => ma s fun xs s1 => K (enumL xs) s1)) := by
  subst hK
  exact pi_imp (pi_enum hg hm (pa_cons h pa_nil hs) hs) fun σ H Rk ⟨s, F, K', A, hm, k⟩ => ⟨s, F, _, A, hm, fun xs s1 v F1 H1 h1 A1 e1 ⟨q, vs, ev, hq, av⟩ => ⟨q, vs, by rw [ev], seqL_mono A1.sub hq, k _ s1 _ F1 H1 h1 A1 e1 (src_enum hq av)⟩⟩
theorem ti_zip {ma : S → (List α → S → Prop) → Prop} {mb : S → (List β → S → Prop) → Prop} {elts : List Expr} {kk : Nat} {tpos : Pos} (hm : X.mg "zip" = none) (h : PE X a (tE B Γ (RList K Ra) ma)) (h' : PE X b (tE B Γ (RList K Rb) mb)) (hK : X.K = K := by rfl) (hg : Gl X "zip" := by rfl)
    (hs : starEach [a, b] X.env = (false, eval a X.env) :: starEach [b] X.env := by rfl) (hs2 : starEach [b] X.env = (false, eval b X.env) :: starEach [] X.env := by rfl) (hpl : (backTo pos (starEach [b] X.env)).any (·.1) = false := by rfl) :
    PI X (.Tuple elts kk tpos) (.Call (.Name "zip" p) [a, b] [] pos) (tI B Γ (RPair K Ra Rb) (fun s K => ma s fun xs s1 => mb s1 fun ys s2 => K (xs.zip ys) s2)) := by
  subst hK
  exact pi_imp (pi_zip hg hm (pa_cons h (pa_cons h' pa_nil hs2) hs) hs hpl) fun σ H Rk ⟨s, F, K', A, hm, k⟩ => ⟨s, F, _, A, hm, fun xs s1 v F1 H1 h1 A1 e1 ⟨q, vs, ev, hq, av⟩ => ⟨s1, F1, _, A1, h1, fun ys s2 w F2 H2 h2 A2 e2 ⟨q2, ws, ew, hq2, aw⟩ =>
    ⟨q, q2, vs, ws, by rw [ev, ew], seqL_mono A2.sub (seqL_mono e2 hq), seqL_mono A2.sub hq2, k _ s2 _ F2 H2 h2 A2 (e1.trans e2) (src_zip (seqL_mono e2 hq) (av.mono e2) hq2 aw)⟩⟩⟩
theorem ti_zipT {ma : S → (List α → S → Prop) → Prop} {mb : S → (List β → S → Prop) → Prop} {elts : List Expr} {kk : Nat} {tpos : Pos} (hm : X.mg "zip" = none) (h : PE X a (tE B Γ (RTup K Ra) ma)) (h' : PE X b (tE B Γ (RTup K Rb) mb)) (hK : X.K = K := by rfl) (hg : Gl X "zip" := by rfl)
    (hs : starEach [a, b] X.env = (false, eval a X.env) :: starEach [b] X.env := by rfl) (hs2 : starEach [b] X.env = (false, eval b X.env) :: starEach [] X.env := by rfl) (hpl : (backTo pos (starEach [b] X.env)).any (·.1) = false := by rfl) :
    PI X (.Tuple elts kk tpos) (.Call (.Name "zip" p) [a, b] [] pos) (tI B Γ (RPair K Ra Rb) (fun s K => ma s fun xs s1 => mb s1 fun ys s2 => K (xs.zip ys) s2)) := by
  subst hK
  exact pi_imp (RZ.pi_zipA hg hm (pa_cons h (pa_cons h' pa_nil hs2) hs) hs hpl) fun σ H Rk ⟨s, F, K', A, hm, k⟩ => ⟨s, F, _, A, hm, fun xs s1 v F1 H1 h1 A1 e1 ⟨q, vs, ev, hq, av⟩ => ⟨s1, F1, _, A1, h1, fun ys s2 w F2 H2 h2 A2 e2 ⟨q2, ws, ew, hq2, aw⟩ =>
    ⟨q, q2, vs, ws, by rw [ev, ew], .inr ⟨seqT_mono A2.sub (seqT_mono e2 hq), seqT_mono A2.sub hq2, k _ s2 _ F2 H2 h2 A2 (e1.trans e2) (src_zipT (seqT_mono e2 hq) (av.mono e2) hq2 aw)⟩⟩⟩⟩

/-! ### targets -/
structure Tg (g : TG) (R : α → Pd) (js : List Nat) (up : List Sl → α → List Sl) : Prop where
  run : ∀ {B : Bs} {Γ : List Sl} {σ : L2.St} {F H : Hp} {x : α} {v : V} {Q : L2.St → Hp → Prop}, At B Γ σ F H → (R x).p v F → (∀ σ', At B (up Γ x) σ' F H → (∀ vs, (∀ j ∈ js, j ∈ vs) → wipe σ' vs = wipe σ vs) → Q σ' H) → g v σ H Q
theorem wipe_set {σ : L2.St} {j : Nat} {v : Option V} : ∀ {vs : List Nat}, j ∈ vs → wipe (σ.set j v) vs = wipe σ vs
  | w :: vs, h => by
    by_cases hj : j ∈ vs
    · show (wipe (σ.set j v) vs).set w none = (wipe σ vs).set w none
      rw [wipe_set hj]
    · have e : j = w := by
        rcases List.mem_cons.mp h with z | z
        · exact z
        · exact absurd z hj
      subst e
      have go : ∀ (vs : List Nat), j ∉ vs → wipe (σ.set j v) vs = (wipe σ vs).set j v := by
        intro vs
        induction vs with
        | nil => intro _; rfl
        | cons u vs ih =>
          intro hn
          have h1 : j ≠ u := fun z => hn (z ▸ List.mem_cons_self)
          show (wipe (σ.set j v) vs).set u none = ((wipe σ vs).set u none).set j v
          rw [ih fun z => hn (List.mem_cons_of_mem _ z), List.set_comm _ _ h1]
      show (wipe (σ.set j v) vs).set j none = (wipe σ vs).set j none
      rw [go vs hj, List.set_set]
theorem wipe_wipe {σ : L2.St} {ws : List Nat} : ∀ {vs : List Nat}, (∀ j ∈ vs, j ∈ ws) → wipe (wipe σ vs) ws = wipe σ ws
  | [], _ => rfl
  | v :: vs, h => by
    show wipe ((wipe σ vs).set v none) ws = wipe σ ws
    rw [wipe_set (h v List.mem_cons_self), wipe_wipe fun j hj => h j (List.mem_cons_of_mem _ hj)]
theorem tg_name (i : Nat) : Tg (gName i) R [i] (fun Γ x => Γ.set i (.im (R x))) := ⟨fun A hr k => k _ (A.setIm hr) fun vs hv => wipe_set (hv i (by simp))⟩
theorem tg_pair (i j : Nat) : Tg (gTup K 2 (gCons (gName i) (gCons (gName j) gNil))) (RPair K Ra Rb) [i, j] (fun Γ x => (Γ.set i (.im (Ra x.1))).set j (.im (Rb x.2))) := ⟨fun {B Γ σ F H x v Q} A hr k => by
  obtain ⟨q, v1, v2, rfl, h2, h3, h4⟩ := hr
  refine ⟨q, _, rfl, seqT_mono A.sub h2, rfl, v1, [v2], rfl, v2, [], rfl, rfl, ?_⟩
  exact k _ ((A.setIm h3).setIm h4) fun vs hv => by rw [wipe_set (hv j (by simp)), wipe_set (hv i (by simp))]⟩

theorem of_iteF {A B : Prop} (h : if false = true then A else B) : B := by
  rw [if_neg Bool.false_ne_true] at h
  exact h
theorem of_iteT {A B : Prop} (h : if true = true then A else B) : A := by
  rw [if_pos rfl] at h
  exact h
/-! ### comprehensions (their parts change nothing) -/
theorem pe_ex {ι : Type} {t : ι → TE} (h : ∀ i, PE X e (t i)) : PE X e (fun σ H Q => ∃ i, t i σ H Q) := ⟨fun pins s σ H Q I ⟨i, q⟩ => (h i).run pins s σ H Q I q⟩
theorem pts_ex {ι : Type} {es : List Expr} {t : ι → TT} (h : ∀ i, PTs X es (t i)) : PTs X es (fun σ H Q => ∃ i, t i σ H Q) := ⟨fun pins s σ H Q I ⟨i, q⟩ => (h i).run pins s σ H Q I q⟩
theorem pss_ex {ι : Type} {es : List Stmt} {t : ι → TS} (h : ∀ i, PSs X es (t i)) : PSs X es (fun D σ H => ∃ i, t i D σ H) := ⟨fun pins s σ H D I ⟨i, q⟩ => (h i).run pins s σ H D I q⟩
/-- slots for a block: its own names forgotten, nothing owned -/
inductive Pur : List Sl → List Sl → Prop
  | nil : Pur [] []
  | im {P Γ Γ'} : Pur Γ Γ' → Pur (.im P :: Γ) (.im P :: Γ')
  | any {s Γ Γ'} : Pur Γ Γ' → Pur (s :: Γ) (.any :: Γ')
def pureOf : List Sl → List Nat → List Sl
  | [], _ => []
  | s :: Γ, vs => (if 0 ∈ vs then .any else match s with | .im P => .im P | _ => .any) :: pureOf Γ ((vs.filter (· ≠ 0)).map (· - 1))
theorem fits_pure {F H : Hp} {F' H' : Hp} : ∀ {Γ Γ' : List Sl} {σ σ' : L2.St} (vs : List Nat), Pur Γ Γ' → Fits B F H Γ σ → (∀ i, i ∉ vs → σ'[i]? = σ[i]?) → σ'.length = σ.length → (∀ i ∈ vs, Γ'[i]? = some .any ∨ Γ'[i]? = none) →
    Fits ⟨F, H, fun _ => False, []⟩ F H Γ' σ' ∧ owA Γ' σ' = []
  | [], [], [], [], _, .nil, _, _, _, _ => ⟨trivial, rfl⟩
  | [], [], [], _ :: _, _, .nil, _, _, hl, _ => by simp at hl
  | [], [], _ :: _, _, _, .nil, h, _, _, _ => h.elim
  | _ :: _, _ :: _, [], _, _, _, h, _, _, _ => h.elim
  | _ :: _, _ :: _, _ :: _, [], _, _, _, _, hl, _ => by simp at hl
  | s :: Γ, s' :: Γ', x :: σ, x' :: σ', vs, pu, h, hs, hl, hv => by
    have step := fun (pu' : Pur Γ Γ') => fits_pure (F' := F') (H' := H') (Γ := Γ) (Γ' := Γ') (σ := σ) (σ' := σ') ((vs.filter (· ≠ 0)).map (· - 1)) pu' h.2 (fun i hi => by
        have := hs (i + 1) (fun z => hi (List.mem_map.mpr ⟨i + 1, List.mem_filter.mpr ⟨z, by simp⟩, by simp⟩))
        simpa using this) (by simpa using hl) (fun i hi => by
        obtain ⟨w, hw, e⟩ := List.mem_map.mp hi
        obtain ⟨hw1, hw2⟩ := List.mem_filter.mp hw
        have hw3 : w ≠ 0 := by simpa using hw2
        have hwi : w = i + 1 := by omega
        subst hwi
        have := hv (i + 1) hw1
        simpa using this)
    cases pu with
    | im pu =>
      obtain ⟨r1, r2⟩ := step pu
      rename_i P
      have n0 : 0 ∉ vs := fun z => by
        have := hv 0 z
        simp at this
      have ex : x' = x := by simpa using hs 0 n0
      subst ex
      obtain ⟨v, h1, h2⟩ := h.1
      exact ⟨⟨⟨v, h1, h2⟩, r1⟩, r2⟩
    | any pu =>
      obtain ⟨r1, r2⟩ := step pu
      exact ⟨⟨trivial, r1⟩, r2⟩
theorem wipe_out {σ : L2.St} : ∀ {vs : List Nat} {i : Nat}, i ∉ vs → (wipe σ vs)[i]? = σ[i]?
  | [], _, _ => rfl
  | v :: vs, i, h => by
    show ((wipe σ vs).set v none)[i]? = σ[i]?
    rw [List.getElem?_set_ne (fun z => h (by subst z; exact List.mem_cons_self)), wipe_out fun z => h (List.mem_cons_of_mem _ z)]
/-- what stands beside: an object that nobody here owns or knows is changed -/
theorem At.poke {Γ : List Sl} {σ : L2.St} {F H : Hp} {D : Addr} {o u : HO} (A : At B Γ σ F H) (hD : H D = some u) (fD : F D = none) (bD : B.H D = none) (n : D ∉ owA Γ σ) : At B Γ σ F (upd H D o) := by
  refine ⟨fun a w g => ?_, A.ext, fun a w g nb => ?_, A.new, fits_upd A.fit n, A.dis, fun a hb => ?_, A.pin⟩
  · have na : a ≠ D := fun z => by rw [z, fD] at g; cases g
    rw [upd_ne na]; exact A.sub _ _ g
  · have na : a ≠ D := fun z => by rw [z, bD] at g; cases g
    rw [upd_ne na]; exact A.kept _ _ g nb
  · obtain ⟨h1, ⟨w, h2⟩, h3⟩ := A.bob a hb
    have na : a ≠ D := fun z => by obtain ⟨o3, h3⟩ := h3; rw [z, bD] at h3; cases h3
    exact ⟨h1, ⟨w, (upd_ne na).trans h2⟩, h3⟩
theorem At.beside {Γ : List Sl} {σ : L2.St} {F H : Hp} {D : Addr} (A : At B Γ σ F H) (n : H D = none) : F D = none ∧ B.H D = none ∧ D ∉ owA Γ σ := ⟨(A.fresh n).1, (A.fresh n).2, A.notOwn n⟩
theorem lc_read {g : TG} {js vs : List Nat} {up : List Sl → α → List Sl} (tgt : Tg g R js up) {Γp : S → List Sl} {mi : S → (List α → S → Prop) → Prop} {mt : S → α → (Bool → Prop) → Prop} {me : S → α → (β → Prop) → Prop}
    (hp : ∀ s, Pur (Γ s) (Γp s)) (hj : ∀ j ∈ js, j ∈ vs) (hv : ∀ s, ∀ i ∈ vs, (Γp s)[i]? = some .any ∨ (Γp s)[i]? = none) {σ : L2.St} {H : Hp} {Q : VK}
    (q : tN B Γ Rb (fun s K => mi s fun xs s1 => xs.length ≤ 1000000 ∧ mMapIf xs (mt s1) (me s1) fun ys => K ys s1) σ H Q) :
    tLc (tI B Γ R mi) g (fun σ H Q => ∃ i : S × α × Bs, tT i.2.2 (fun _ : Unit => up (Γp i.1) i.2.1) (fun _ K => mt i.1 i.2.1 fun b => K b ()) σ H Q)
      (fun σ H Q => ∃ i : S × α × Bs, tE i.2.2 (fun _ : Unit => up (Γp i.1) i.2.1) Rb (fun _ K => me i.1 i.2.1 fun y => K y ()) σ H Q) vs σ H Q := by
  obtain ⟨s, F, K', A, hm, k⟩ := q
  refine ⟨s, F, _, A, hm, fun xs s1 J F1 H1 ⟨hz, h1⟩ A1 e1 src => ?_⟩
  intro D hD
  have bD := A1.beside hD
  refine ⟨fun i mm H' => ∃ Fi acc ys, mm = xs.length - i ∧ i ≤ xs.length ∧ Same F1 Fi ∧ At B (Γ s1) σ Fi H' ∧ H' D = some (.lst acc) ∧ Fi D = none ∧ AllR Rb ys acc Fi ∧ ys.length ≤ i ∧ mMapIf (xs.drop i) (mt s1) (me s1) fun zs => K' (ys ++ zs) s1, ?_, ?_⟩
  · refine ⟨xs.length, F1, [], [], by simp, Nat.zero_le _, Same.refl _, A1.layH hD, upd_same, bD.1, trivial, Nat.le_refl _, ?_⟩
    simpa using h1
  · rintro i mm H' ⟨Fi, acc, ys, rfl, hi, eF, Ai, hDi, fDi, av, hyl, hk⟩
    obtain ⟨s1', s2', s3'⟩ := src Fi H' eF Ai.sub
    by_cases hlt : i < xs.length
    · refine .inr ⟨s2' i hlt, fun H'' => ∃ mm', mm' < xs.length - i ∧ ∃ Fi acc ys, mm' = xs.length - (i + 1) ∧ i + 1 ≤ xs.length ∧ Same F1 Fi ∧ At B (Γ s1) σ Fi H'' ∧ H'' D = some (.lst acc) ∧ Fi D = none ∧ AllR Rb ys acc Fi ∧ ys.length ≤ i + 1 ∧ mMapIf (xs.drop (i + 1)) (mt s1) (me s1) fun zs => K' (ys ++ zs) s1, fun H'' z => z, fun v H2 hy => ?_⟩
      obtain ⟨F2, f1, f2, f3, f4, f5⟩ := s3' i xs[i] v H2 (List.getElem?_eq_getElem hlt) hy
      have A2 := Ai.grow f1 f2 f3 f4
      have hD2 := f2 _ _ hDi
      have fD2 : F2 D = none := f4.no fDi hDi
      rw [List.drop_eq_getElem_cons hlt] at hk
      -- the block's own base
      obtain ⟨pf, po⟩ := fits_pure (F' := F2) (H' := H2) (σ' := wipe σ vs) vs (hp s1) A2.fit (fun i hi => wipe_out hi) (wipe_length σ vs) (hv s1)
      have A3 : At ⟨F2, H2, fun _ => False, []⟩ (Γp s1) (wipe σ vs) F2 H2 := ⟨A2.sub, Same.refl _, fun a o e _ => e, fun a o e => .inl e, pf, by rw [po]; exact List.Pairwise.nil, fun a hb => hb.elim, fun _ z => nomatch z⟩
      refine tgt.run A3 f5 fun σ' A4 hw => ?_
      refine ⟨by rw [hw vs hj, wipe_wipe fun _ z => z], ⟨s1, xs[i], ⟨F2, H2, fun _ => False, []⟩⟩, (), F2, fun bb (_ : Unit) => if bb = true then me s1 xs[i] (fun y => mMapIf (xs.drop (i + 1)) (mt s1) (me s1) fun zs => K' (ys ++ (y :: zs)) s1) else mMapIf (xs.drop (i + 1)) (mt s1) (me s1) fun zs => K' (ys ++ zs) s1, A4, hk, fun bb _ F5 H5 h5 A5 e5 => ?_⟩
      have back : ∀ {F6 H6 : Hp}, At ⟨F2, H2, fun _ => False, []⟩ (up (Γp s1) xs[i]) σ' F6 H6 → At B (Γ s1) σ F6 H6 ∧ H6 D = some (.lst acc) ∧ F6 D = none := fun {F6 H6} A6 => by
        have sH : Same H2 H6 := fun a o e => A6.kept a o e id
        have nw : Nw F2 H2 F6 := fun a o e => A6.new a o e
        exact ⟨A2.grow A6.ext sH A6.sub nw, sH _ _ hD2, nw.no fD2 hD2⟩
      cases bb with
      | false =>
        refine iteF ?_
        have h5 := of_iteF h5
        obtain ⟨g1, g2, g3⟩ := back A5
        exact ⟨xs.length - (i + 1), by omega, F5, acc, ys, rfl, hlt, (eF.trans f1).trans e5, g1, g2, g3, (av.mono f1).mono e5, by omega, h5⟩
      | true =>
        refine iteT ?_
        have h5 := of_iteT h5
        refine ⟨⟨s1, xs[i], ⟨F2, H2, fun _ => False, []⟩⟩, (), F5, fun y (_ : Unit) => mMapIf (xs.drop (i + 1)) (mt s1) (me s1) fun zs => K' (ys ++ (y :: zs)) s1, A5, h5, fun y _ w F6 H6 h6 A6 e6 r6 => ?_⟩
        obtain ⟨g1, g2, g3⟩ := back A6
        refine ⟨acc, g2, ?_, xs.length - (i + 1), by omega, F6, acc ++ [w], ys ++ [y], rfl, hlt, ((eF.trans f1).trans e5).trans e6, ?_, upd_same, g3, ?_, by rw [List.length_append, List.length_singleton]; omega, ?_⟩
        · rw [av.len]
          exact Nat.lt_of_lt_of_le (Nat.lt_of_le_of_lt hyl hlt) (smallLen hz)
        · exact g1.poke g2 g3 bD.2.1 bD.2.2
        · exact (((av.mono f1).mono e5).mono e6).append ⟨r6, trivial⟩
        · simpa using h6
    · have e : i = xs.length := by omega
      subst e
      refine .inl ⟨s1' _ (Nat.le_refl _), ?_⟩
      rw [List.drop_length] at hk
      have hk : K' (ys ++ []) s1 := hk
      rw [List.append_nil] at hk
      exact k ys s1 D acc Fi H' hk Ai (e1.trans eF) hDi fDi bD.2.1 bD.2.2 av
end
end TL
namespace TL
open PySem L2

/-! ### comprehensions as expressions -/
def pureFrom (vs : List Nat) : Nat → List Sl → List Sl
  | _, [] => []
  | i, s :: Γ => (bif vs.any (Nat.beq i) then .any else match s with | .im P => .im P | _ => .any) :: pureFrom vs (i + 1) Γ
theorem pur_pure (vs : List Nat) : ∀ (i : Nat) (Γ : List Sl), Pur Γ (pureFrom vs i Γ)
  | _, [] => .nil
  | i, s :: Γ => by
    unfold pureFrom
    cases h : vs.any (Nat.beq i) with
    | true => exact .any (pur_pure vs (i + 1) Γ)
    | false =>
      cases s with
      | im P => exact .im (pur_pure vs (i + 1) Γ)
      | any => exact .any (pur_pure vs (i + 1) Γ)
      | ow O => exact .any (pur_pure vs (i + 1) Γ)
      | bo j O => exact .any (pur_pure vs (i + 1) Γ)
theorem pure_any (vs : List Nat) : ∀ (k : Nat) (Γ : List Sl) (j : Nat), (k + j) ∈ vs → (pureFrom vs k Γ)[j]? = some .any ∨ (pureFrom vs k Γ)[j]? = none
  | _, [], j, _ => .inr (by simp [pureFrom])
  | k, s :: Γ, 0, h => by
    left
    unfold pureFrom
    have : vs.any (Nat.beq k) = true := List.any_eq_true.mpr ⟨k, by simpa using h, by simp⟩
    rw [this]
    rfl
  | k, s :: Γ, j + 1, h => by
    unfold pureFrom
    have := pure_any vs (k + 1) Γ j (by rw [Nat.add_assoc, Nat.add_comm 1 j]; exact h)
    simpa using this
section
variable {X : Cx} {S S' : Type} {B : Bs} {Γ : S → List Sl} {K : PySem.W.Frag} {α β γ ι : Type} {R Ra : α → Pd} {Rb : β → Pd} {Rc : γ → Pd} {e a b c tg it elt cond : Expr} {pos p : Pos} {x : Str} {scope : Scope} {own : List (Str × Nat)}
variable {m ma : S → (α → S → Prop) → Prop} {mb : S → (β → S → Prop) → Prop} {g : TG} {js : List Nat} {up : List Sl → α → List Sl}
theorem pts_yes {Y : Cx} {Γ' : Unit → List Sl} {B' : Bs} : PTs Y [] (tT B' Γ' (fun _ K => K true ())) := ⟨fun pins s σ H Q I ⟨u, F, K', A, hm, k⟩ => pts_nil.run pins s σ H Q I (k true () F H hm A (Same.refl F))⟩
theorem tn_compIf {mi : S → (List α → S → Prop) → Prop} {mt : S → α → Unit → (Bool → Unit → Prop) → Prop} {me : S → α → Unit → (β → Unit → Prop) → Prop} (nd : X.N.Nodup) (hi : PI X tg it (tI B Γ R mi)) (ok : BlkOk X.N X.env.scope scope own)
    (hg : ∀ (s : Shared) (H : Hp) (C : Addr) (cl : List (Str × Addr)) (fp : List Addr), PG (X.blk s H scope (compEnvC scope cl C X.env) fp) tg g) (tgt : Tg g R js up)
    (ht : ∀ (s1 : S) (x : α) (B' : Bs) (s : Shared) (H : Hp) (C : Addr) (cl : List (Str × Addr)) (fp : List Addr), PT (X.blk s H scope (compEnvC scope cl C X.env) fp) cond (tT B' (fun _ : Unit => up (pureFrom (own.map (·.2)) 0 (Γ s1)) x) (mt s1 x)))
    (he : ∀ (s1 : S) (x : α) (B' : Bs) (s : Shared) (H : Hp) (C : Addr) (cl : List (Str × Addr)) (fp : List Addr), PE (X.blk s H scope (compEnvC scope cl C X.env) fp) elt (tE B' (fun _ : Unit => up (pureFrom (own.map (·.2)) 0 (Γ s1)) x) Rb (me s1 x)))
    (hj : ∀ j ∈ js, j ∈ own.map (·.2) := by decide) (hc : X.calm = true := by rfl) (hs : ∀ x, foldedSetIterable it X.env x = pure x := by intro _; rfl) :
    PE X (.ListComp elt [⟨tg, it, [cond], 0⟩] scope pos) (tN B Γ Rb (fun s K => mi s fun xs s1 => xs.length ≤ 1000000 ∧ mMapIf xs (fun x K => mt s1 x () fun b _ => K b) (fun x K => me s1 x () fun y _ => K y) fun ys => K ys s1)) :=
  pe_imp (pe_lc hc nd hi ok hg (fun s H C cl fp => pts_one (pt_imp (t := fun σ H Q => ∃ i : S × α × Bs, tT i.2.2 (fun _ : Unit => up (pureFrom (own.map (·.2)) 0 (Γ i.1)) i.2.1) (mt i.1 i.2.1) σ H Q)
      ⟨fun pins s' σ H' Q I ⟨i, q⟩ => (ht i.1 i.2.1 i.2.2 s H C cl fp).run pins s' σ H' Q I q⟩ fun _ _ _ q => q))
    (fun s H C cl fp => pe_ex fun i : S × α × Bs => he i.1 i.2.1 i.2.2 s H C cl fp) hs)
    fun σ H Q q => lc_read (mt := fun s1 x K => mt s1 x () fun b _ => K b) (me := fun s1 x K => me s1 x () fun y _ => K y) tgt (fun s => pur_pure _ 0 _) hj (fun s i hi => pure_any _ 0 _ i (by simpa using hi)) q
theorem tn_map {mi : S → (List α → S → Prop) → Prop} {me : S → α → Unit → (β → Unit → Prop) → Prop} (nd : X.N.Nodup) (hi : PI X tg it (tI B Γ R mi)) (ok : BlkOk X.N X.env.scope scope own)
    (hg : ∀ (s : Shared) (H : Hp) (C : Addr) (cl : List (Str × Addr)) (fp : List Addr), PG (X.blk s H scope (compEnvC scope cl C X.env) fp) tg g) (tgt : Tg g R js up)
    (he : ∀ (s1 : S) (x : α) (B' : Bs) (s : Shared) (H : Hp) (C : Addr) (cl : List (Str × Addr)) (fp : List Addr), PE (X.blk s H scope (compEnvC scope cl C X.env) fp) elt (tE B' (fun _ : Unit => up (pureFrom (own.map (·.2)) 0 (Γ s1)) x) Rb (me s1 x)))
    (hj : ∀ j ∈ js, j ∈ own.map (·.2) := by decide) (hc : X.calm = true := by rfl) (hs : ∀ x, foldedSetIterable it X.env x = pure x := by intro _; rfl) :
    PE X (.ListComp elt [⟨tg, it, [], 0⟩] scope pos) (tN B Γ Rb (fun s K => mi s fun xs s1 => xs.length ≤ 1000000 ∧ mMap xs (fun x K => me s1 x () fun y _ => K y) fun ys => K ys s1)) :=
  pe_imp (pe_lc hc nd hi ok hg (fun s H C cl fp => pts_ex fun i : S × α × Bs => pts_yes (B' := i.2.2) (Γ' := fun _ : Unit => up (pureFrom (own.map (·.2)) 0 (Γ i.1)) i.2.1))
    (fun s H C cl fp => pe_ex fun i : S × α × Bs => he i.1 i.2.1 i.2.2 s H C cl fp) hs)
    fun σ H Q q => lc_read (mt := fun _ _ K => K true) (me := fun s1 x K => me s1 x () fun y _ => K y) tgt (fun s => pur_pure _ 0 _) hj (fun s i hi => pure_any _ 0 _ i (by simpa using hi)) (by
      obtain ⟨s, F, K', A, hm, k⟩ := q
      refine ⟨s, F, K', A, ?_, k⟩
      have : (fun (xs : List α) (s1 : S) => xs.length ≤ 1000000 ∧ mMapIf xs (fun _ K => K true) (fun x K => me s1 x () fun y _ => K y) fun ys => K' ys s1) = (fun xs s1 => xs.length ≤ 1000000 ∧ mMap xs (fun x K => me s1 x () fun y _ => K y) fun ys => K' ys s1) := by
        funext xs s1
        rw [← mMapIf_true]
      show mi s (fun (xs : List α) (s1 : S) => xs.length ≤ 1000000 ∧ mMapIf xs (fun _ K => K true) (fun x K => me s1 x () fun y _ => K y) fun ys => K' ys s1)
      rw [this]
      exact hm)
end

/-- a list in the heap, read as any list -/
theorem te_l {X : Cx} {S : Type} {B : Bs} {Γ : S → List Sl} {K : PySem.W.Frag} {α : Type} {R : α → Pd} {e : Expr} {m : S → (List α → S → Prop) → Prop} (h : PE X e (tE B Γ (RLst R) m)) : PE X e (tE B Γ (RList K R) m) :=
  pe_imp h fun σ H Q ⟨s, F, K', A, hm, k⟩ => ⟨s, F, K', A, hm, fun x s' v F' H' kx A' e' ⟨q, vs, h1, h2, h3⟩ => k x s' v F' H' kx A' e' ⟨q, vs, h1, SqL.of h2, h3⟩⟩
/-! ### defs: what they promise -/
/-- arguments that are not changed -/
def spP {ι α : Type} (As : ι → List Pd) (R : α → Pd) (m : ι → (α → Prop) → Prop) : Sp := fun vs H Q _ => ∃ y F K, AllP (As y) vs F ∧ Same F H ∧ m y K ∧
  ∀ r v F' H', K r → (R r).p v F' → Same F F' → Same H H' → Same F' H' → Nw F H F' → Q v H'
/-- the first argument is lent, and changed -/
def spB {ι α T : Type} (O : T → Od) (As : ι → List Pd) (R : α → Pd) (m : ι → T → (α → T → Prop) → Prop) : Sp := fun vs H Q _ => ∃ y t F K j ws o, vs = .ref j :: ws ∧ AllP (As y) ws F ∧ Same F H ∧ F j = none ∧ H j = some o ∧ (O t).p o F ∧ m y t K ∧
  ∀ r t' v F' H' o', K r t' → (R r).p v F' → Same F F' → (∀ a u, a ≠ j → H a = some u → H' a = some u) → Same F' H' → Nw F H F' → F' j = none → H' j = some o' → (O t').p o' F' → Q v H'
/-- an __init__: the new instance is made -/
def spI {ι α : Type} (C : Addr) (As : ι → List Pd) (R : α → Pd) (m : ι → (α → Prop) → Prop) : Sp := fun vs H Q _ => ∃ y F K a dx ws, vs = .ref a :: ws ∧ AllP (As y) ws F ∧ Same F H ∧ F a = none ∧ F dx = none ∧ dx ≠ a ∧ H a = some (.ins C dx []) ∧ H dx = some (.own a) ∧ m y K ∧
  ∀ r F' H', K r → (R r).p (.ref a) F' → Same F F' → (∀ b u, b ≠ a → H b = some u → H' b = some u) → Same F' H' → (∀ b u, F' b = some u → F b = some u ∨ b = a ∨ H b = none) → Q .non H'

section
variable {X : Cx} {S S' : Type} {B : Bs} {Γ : S → List Sl} {K : PySem.W.Frag} {α β γ ι T : Type} {R Ra : α → Pd} {Rb : β → Pd} {Rc : γ → Pd} {e a b c o : Expr} {es : List Expr} {pos p apos : Pos} {x mn : Str} {k : Nat} {f C : Addr} {fd : FuncData} {ps : List Str}
variable {m : S → (α → S → Prop) → Prop} {mb : S → (β → S → Prop) → Prop} {As : ι → List Pd} {mr : S → (ι → S → Prop) → Prop} {O : T → Od}
theorem call_p {mf : ι → (α → Prop) → Prop} {σ : L2.St} {H : Hp} {Q : VK} {E : XK} (q : tE B Γ R (fun s K => mr s fun y s1 => mf y fun r => K r s1) σ H Q) : tCall (spP As R mf) [] E (tA B Γ As mr) σ H Q := by
  obtain ⟨s, F, K', A, hm, k⟩ := q
  refine ⟨s, F, _, A, hm, fun y s1 vs F1 H1 h1 A1 e1 r1 => ?_⟩
  show spP As R mf (vs ++ []) H1 Q E
  rw [List.append_nil]
  exact ⟨y, F1, _, r1, A1.sub, h1, fun r v F' H' kr rv eF eH sb nw => k r s1 v F' H' kr (A1.grow eF eH sb nw) (e1.trans eF) rv⟩
theorem te_call {mf : ι → (α → Prop) → Prop} (F : FnOk X.prog X.w X.K X.mg X.base CX0 k f fd ps (spP As R mf)) (hr : Room k X.A) (hm : X.mg x = some (.ref f)) (hk : PySem.W.keepIn X.K (.ref f) = true) (hb : Binds X.K fd ps []) (ha : PA X (e :: es) (tA B Γ As mr)) (hg : Gl X x := by rfl) (hdb : (x == ("__debug__" : Str)) = false := by decide)
    (hs : starEach (e :: es) X.env = (false, eval e X.env) :: starEach es X.env := by rfl) (hpl : (backTo pos (starEach es X.env)).any (·.1) = false := by rfl) :
    PE X (.Call (.Name x p) (e :: es) [] pos) (tE B Γ R (fun s K => mr s fun y s1 => mf y fun r => K r s1)) := pe_imp (pe_call F hr hg hm hk hb .nil (pass0 (X := X)) ha hdb hs hpl) fun _ _ _ q => call_p q
/-- a call with the lent thing of slot i (lent to the caller) -/
theorem call_b {mf : ι → T → (α → T → Prop) → Prop} {i : Nat} {j : Addr} {get : S → T} {put : S → T → S} (hG : ∀ s, (Γ s)[i]? = some (.bo j (O (get s)))) (hP : ∀ s t, Γ (put s t) = (Γ s).set i (.bo j (O t))) {σ : L2.St} {H : Hp} {Q : VK} {E : XK}
    (q : tE B Γ R (fun s K => mr s fun y s1 => mf y (get s1) fun r t => K r (put s1 t)) σ H Q) : tCall (spB O As R mf) [] E (tCons (tVar i) (tA B Γ As mr)) σ H Q := by
  obtain ⟨s, F, K', A, hm, k⟩ := q
  obtain ⟨ob, h1, h2, h3, h4, h5⟩ := A.bo (hG s)
  refine ⟨_, h1, s, F, _, A, hm, fun y s1 vs F1 H1 q1 A1 e1 r1 => ?_⟩
  show spB O As R mf (.ref j :: vs ++ []) H1 Q E
  rw [List.append_nil]
  obtain ⟨ob1, g1, g2, g3, g4, g5⟩ := A1.bo (hG s1)
  refine ⟨y, get s1, F1, _, j, vs, ob1, rfl, r1, A1.sub, g2, g3, g4, q1, fun r t' v F' H' o' kr rv eF eH sb nw fj hj ho => ?_⟩
  refine k r (put s1 t') v F' H' kr ?_ (e1.trans eF) rv
  rw [hP]
  -- first all but j grows, then j is written
  have sG : Same H1 (fun b => if b = j then some ob1 else H' b) := fun b u g => by
    by_cases hb : b = j
    · subst hb; rw [g3] at g; cases g; exact if_pos rfl
    · show (if b = j then _ else _) = _
      rw [if_neg hb]; exact eH b u hb g
  have A2 := A1.grow (H' := fun b => if b = j then some ob1 else H' b) eF sG (fun b u g => by
    by_cases hb : b = j
    · subst hb; rw [fj] at g; cases g
    · show (if b = j then _ else _) = _
      rw [if_neg hb]; exact sb b u g) nw
  have A3 := A2.writeB (O' := O t') (o := o') (hG s1) ho
  have : upd (fun b => if b = j then some ob1 else H' b) j o' = H' := by
    funext b
    unfold upd
    by_cases hb : b = j
    · subst hb; rw [if_pos rfl, hj]
    · rw [if_neg hb]
      show (if b = j then _ else _) = _
      rw [if_neg hb]
  rw [this] at A3
  exact A3
theorem te_callB {mf : ι → T → (α → T → Prop) → Prop} {xn : Str} {pn : Pos} (i : Nat) (get : S → T) (put : S → T → S) {j : Addr} (F : FnOk X.prog X.w X.K X.mg X.base CX0 k f fd ps (spB O As R mf)) (hr : Room k X.A) (hm : X.mg x = some (.ref f)) (hk : PySem.W.keepIn X.K (.ref f) = true) (hb : Binds X.K fd ps []) (ha : PA X es (tA B Γ As mr))
    (hG : ∀ s, (Γ s)[i]? = some (.bo j (O (get s))) := by intro _; rfl) (hP : ∀ s t, Γ (put s t) = (Γ s).set i (.bo j (O t)) := by intro _ _; rfl) (hN : X.N[i]? = some xn := by rfl) (hv : Vis X.env.scope xn := by first | exact Or.inl rfl | exact Or.inr (Or.inl rfl) | exact Or.inr (Or.inr rfl)) (hd : (xn == ("__debug__" : Str)) = false := by decide) (hcd : (xn == ("__classdict__" : Str)) = false := by decide)
    (hg : Gl X x := by rfl) (hdb : (x == ("__debug__" : Str)) = false := by decide) (hs : starEach (.Name xn pn :: es) X.env = (false, eval (.Name xn pn) X.env) :: starEach es X.env := by rfl) (hpl : (backTo pos (starEach es X.env)).any (·.1) = false := by rfl) :
    PE X (.Call (.Name x p) (.Name xn pn :: es) [] pos) (tE B Γ R (fun s K => mr s fun y s1 => mf y (get s1) fun r t => K r (put s1 t))) :=
  pe_imp (pe_call F hr hg hm hk hb .nil (pass0 (X := X)) (pa_cons (pe_var hN hv hd hcd) ha hs) hdb hs hpl) fun _ _ _ q => call_b hG hP q

/-! ### instances -/
/-- what is an instance of the class at C, with no attribute of the name -/
def InsR (R : α → Pd) (C : Addr) (mn : Str) : Prop := ∀ x v F, (R x).p v F → ∃ a dx fs, v = .ref a ∧ F a = some (.ins C dx fs) ∧ fs.lookup mn = none
theorem te_meth {mf : (α × ι) → (β → Prop) → Prop} {pl : Sem Bool} (hI : InsR R C mn) (ho : PE X o (tE B Γ R m)) (c : Cls X.K C) (hm : Meth X.K C mn f) (F : FnOk X.prog X.w X.K X.mg X.base CX0 k f fd ps (spP (acons R As) Rb mf)) (hr : Room k X.A) (hb : Binds X.K fd ps []) (ha : PA X (e :: es) (tA B Γ As mr))
    (hst : starEach (e :: es) X.env = (false, eval e X.env) :: starEach es X.env := by rfl) (hpl : (backTo pos (starEach es X.env)).any (·.1) = false := by rfl)
    (ht : eval (.Call (.Attribute o mn apos) (e :: es) [] pos) X.env = (do
      let ov ← eval o X.env
      standAt apos.atName
      let (f, first) ← holding [ov] (getMethod ov mn pl)
      callWith pos f first (backTo pos (starEach (e :: es) X.env)) (backToKw pos (keywordEach [] X.env))) := by rfl) :
    PE X (.Call (.Attribute o mn apos) (e :: es) [] pos) (tE B Γ Rb (fun s K => m s fun x s0 => mr s0 fun y s1 => mf (x, y) fun r => K r s1)) :=
  pe_imp (pe_meth ho c hm F hr hb .nil (pass0 (X := X)) ha hst hpl ht) fun σ H Q ⟨s, F, K', A, hm, k⟩ => ⟨s, F, _, A, hm, fun x s0 v F0 H0 h0 A0 e0 r0 => by
    obtain ⟨a, dx, fs, rfl, h2, h3⟩ := hI x v F0 r0
    refine ⟨a, dx, fs, rfl, A0.sub _ _ h2, h3, s0, F0, _, A0, h0, fun y s1 vs F1 H1 h1 A1 e1 r1 => ?_⟩
    show spP _ _ _ (.ref a :: (vs ++ [])) H1 Q _
    rw [List.append_nil]
    exact ⟨(x, y), F1, _, ⟨(R x).mono _ _ _ e1 r0, r1⟩, A1.sub, h1, fun r v F' H' kr rv eF eH sb nw => k r s1 v F' H' kr (A1.grow eF eH sb nw) ((e0.trans e1).trans eF) rv⟩⟩
theorem te_meth0 {mf : (α × Unit) → (β → Prop) → Prop} {pl : Sem Bool} (hI : InsR R C mn) (ho : PE X o (tE B Γ R m)) (c : Cls X.K C) (hm : Meth X.K C mn f) (F : FnOk X.prog X.w X.K X.mg X.base CX0 k f fd ps (spP (acons R anil) Rb mf)) (hr : Room k X.A) (hb : Binds X.K fd ps [])
    (ht : eval (.Call (.Attribute o mn apos) [] [] pos) X.env = (do
      let ov ← eval o X.env
      standAt apos.atName
      let (f, first) ← holding [ov] (getMethod ov mn pl)
      callWith pos f first (backTo pos (starEach [] X.env)) (backToKw pos (keywordEach [] X.env))) := by rfl) :
    PE X (.Call (.Attribute o mn apos) [] [] pos) (tE B Γ Rb (fun s K => m s fun x s1 => mf (x, ()) fun r => K r s1)) :=
  pe_imp (pe_meth0 ho c hm F hr hb .nil (pass0 (X := X)) ht) fun σ H Q ⟨s, F, K', A, hm, k⟩ => ⟨s, F, _, A, hm, fun x s0 v F0 H0 h0 A0 e0 r0 => by
    obtain ⟨a, dx, fs, rfl, h2, h3⟩ := hI x v F0 r0
    refine ⟨a, dx, fs, rfl, A0.sub _ _ h2, h3, ?_⟩
    exact ⟨(x, ()), F0, _, ⟨r0, trivial⟩, A0.sub, h0, fun r v F' H' kr rv eF eH sb nw => k r s0 v F' H' kr (A0.grow eF eH sb nw) (e0.trans eF) rv⟩⟩
theorem te_make {mf : ι → (α → Prop) → Prop} (M : Mk X.K C f) (F : FnOk X.prog X.w X.K X.mg X.base CX0 k f fd ps (spI C As R mf)) (hr : Room (k + 1) X.A) (hm : X.mg x = some (.ref C)) (hb : Binds X.K fd ps []) (ha : PA X (e :: es) (tA B Γ As mr)) (hg : Gl X x := by rfl) (hdb : (x == ("__debug__" : Str)) = false := by decide)
    (hs : starEach (e :: es) X.env = (false, eval e X.env) :: starEach es X.env := by rfl) (hpl : (backTo pos (starEach es X.env)).any (·.1) = false := by rfl) :
    PE X (.Call (.Name x p) (e :: es) [] pos) (tE B Γ R (fun s K => mr s fun y s1 => mf y fun r => K r s1)) :=
  pe_imp (pe_make M F hr hg hm hb .nil (pass0 (X := X)) ha hdb hs hpl) fun σ H Q ⟨s, F, K', A, hm, k⟩ => ⟨s, F, _, A, hm, fun y s1 vs F1 H1 h1 A1 e1 r1 => by
    intro a dx na nd ne
    rw [List.append_nil]
    have fa := (A1.fresh na).1
    have fd' := (A1.fresh nd).1
    have keep : ∀ b u, H1 b = some u → (upd (upd H1 dx (.own a)) a (.ins C dx [])) b = some u := fun b u g => by
      rw [upd_ne (ne_of_none g na), upd_ne (ne_of_none g nd)]; exact g
    refine ⟨y, F1, _, a, dx, vs, rfl, r1, fun b u g => keep b u (A1.sub _ _ g), fa, fd', ne, upd_same, by rw [upd_ne ne, upd_same], h1, fun r F' H' kr rv eF eH sb nw => ⟨rfl, ?_⟩⟩
    refine k r s1 _ F' H' kr (A1.grow eF (fun b u g => eH b u (ne_of_none g na) (keep b u g)) sb fun b u g => ?_) (e1.trans eF) rv
    rcases nw b u g with z | z | z
    · exact .inl z
    · exact .inr (z ▸ na)
    · right
      cases q : H1 b with
      | none => rfl
      | some w => rw [keep b w q] at z; cases z⟩
/-- e.f -/
def FldR (R : α → Pd) (C : Addr) (fn : Str) (Rb : β → Pd) (get : α → β) : Prop := ∀ x v F, (R x).p v F → ∃ a dx fs w, v = .ref a ∧ F a = some (.ins C dx fs) ∧ fs.lookup fn = some w ∧ (Rb (get x)).p w F
theorem te_fld {fn : Str} {get : α → β} (hf : FldR R C fn Rb get) (c : Cls X.K C) (hn : NoAttr X.K C fn) (ho : PE X o (tE B Γ R m)) (hb : attributeBase o fn X.env (eval o X.env) = eval o X.env := by rfl) : PE X (.Attribute o fn pos) (tE B Γ Rb (fun s K => m s fun x s1 => K (get x) s1)) :=
  pe_imp (pe_fld ho hb) fun σ H Q ⟨s, F, K', A, hm, k⟩ => ⟨s, F, _, A, hm, fun x s1 v F1 H1 h1 A1 e1 r1 => by
    obtain ⟨a, dx, fs, w, rfl, h2, h3, h4⟩ := hf x v F1 r1
    exact ⟨a, C, dx, fs, w, rfl, A1.sub _ _ h2, c, hn, h3, k _ s1 w F1 H1 h1 A1 e1 h4⟩⟩
end

/-! ### statements -/
structure Xt where
  nx : L2.St → Hp → Hp → Prop
  rt : V → Hp → Hp → Prop
  bk : L2.St → Hp → Hp → Prop := fun _ _ _ => False
  ct : L2.St → Hp → Hp → Prop := fun _ _ _ => False
structure Lk (P : Xt) (D : Ends) : Prop where
  nx : ∀ σ F H, P.nx σ F H → D.nx σ H
  rt : ∀ v F H, P.rt v F H → D.rt v H
  bk : ∀ σ F H, P.bk σ F H → D.bk σ H
  ct : ∀ σ F H, P.ct σ F H → D.ct σ H
def tS {S : Type} (B : Bs) (Γ : S → List Sl) (P : Xt) (m : S → Prop) : TS := fun D σ H => ∃ s F, At B (Γ s) σ F H ∧ m s ∧ Lk P D
def nxX {S : Type} (B : Bs) (Γ : S → List Sl) (Kn : S → Prop) : L2.St → Hp → Hp → Prop := fun σ F H => ∃ s, Kn s ∧ At B (Γ s) σ F H
def Fin (B : Bs) (F H : Hp) : Prop := Same B.F F ∧ Same F H ∧ (∀ a o, B.H a = some o → ¬ B.bor a → H a = some o) ∧ Nw B.F B.H F
theorem At.fin {B : Bs} {Γ : List Sl} {σ : L2.St} {F H : Hp} (A : At B Γ σ F H) : Fin B F H := ⟨A.ext, A.sub, A.kept, A.new⟩
/-- the ends of a def whose arguments are not changed; of one with a lent argument -/
def xP {α : Type} (B : Bs) (R : α → Pd) (Kf : α → Prop) : Xt := { nx := fun _ F H => ∃ r, Kf r ∧ (R r).p .non F ∧ Fin B F H, rt := fun v F H => ∃ r, Kf r ∧ (R r).p v F ∧ Fin B F H }
def xB {α T : Type} (B : Bs) (j : Addr) (O : T → Od) (R : α → Pd) (Kf : α → T → Prop) : Xt := { nx := fun _ F H => ∃ r t o, Kf r t ∧ (R r).p .non F ∧ Fin B F H ∧ F j = none ∧ H j = some o ∧ (O t).p o F, rt := fun v F H => ∃ r t o, Kf r t ∧ (R r).p v F ∧ Fin B F H ∧ F j = none ∧ H j = some o ∧ (O t).p o F }

section
variable {X : Cx} {S S' : Type} {B : Bs} {Γ : S → List Sl} {Γj : S' → List Sl} {K : PySem.W.Frag} {α β γ ι T : Type} {R Ra : α → Pd} {Rb : β → Pd} {e c tg it : Expr} {pos p : Pos} {x : Str} {P : Xt} {st : Stmt} {rest sa sb body : List Stmt} {g : TG} {js : List Nat} {up : List Sl → α → List Sl}
variable {m : S → (α → S → Prop) → Prop} {mt : S → (Bool → S → Prop) → Prop} {O : T → Od}
theorem ts_ret {Kf : α → Prop} (he : PE X e (tE B Γ R m)) (hP : P.rt = (xP B R Kf).rt := by rfl) : PSs X [.Return (some e) pos] (tS B Γ P (fun s => m s fun x _ => Kf x)) :=
  pss_imp (pss_one (ps_ret he)) fun D σ H ⟨s, F, A, hm, L⟩ => ⟨s, F, _, A, hm, fun x s1 v F1 H1 h1 A1 e1 r1 => L.rt v F1 H1 (by rw [hP]; exact ⟨x, h1, r1, A1.fin⟩)⟩
theorem ts_retB {Kf : α → T → Prop} {j : Addr} (i : Nat) (get : S → T) (he : PE X e (tE B Γ R m)) (hG : ∀ s, (Γ s)[i]? = some (.bo j (O (get s))) := by intro _; rfl) (hP : P.rt = (xB B j O R Kf).rt := by rfl) : PSs X [.Return (some e) pos] (tS B Γ P (fun s => m s fun x s1 => Kf x (get s1))) :=
  pss_imp (pss_one (ps_ret he)) fun D σ H ⟨s, F, A, hm, L⟩ => ⟨s, F, _, A, hm, fun x s1 v F1 H1 h1 A1 e1 r1 => L.rt v F1 H1 (by
    obtain ⟨o, _, h2, h3, h4, _⟩ := A1.bo (hG s1)
    rw [hP]
    exact ⟨x, get s1, o, h1, r1, A1.fin, h2, h3, h4⟩)⟩
/-- nothing more here -/
theorem ts_end {Kn : S' → Prop} (π : S → S') (hle : ∀ s, Le (Γ s) (Γj (π s))) (hP : P.nx = nxX B Γj Kn := by rfl) : PSs X [] (tS B Γ P (fun s => Kn (π s))) :=
  pss_imp pss_nil fun D σ H ⟨s, F, A, hm, L⟩ => L.nx σ F H (by rw [hP]; exact ⟨π s, hm, A.le (hle s)⟩)
/-- this way is never gone -/
theorem ts_never {sts : List Stmt} : PSs X sts (tS B Γ P (fun _ => False)) := pss_imp pss_never fun D σ H ⟨s, F, A, hm, L⟩ => hm.elim
theorem lk_nx {P : Xt} {D : Ends} (L : Lk P D) {nx : L2.St → Hp → Hp → Prop} {n : L2.St → Hp → Prop} (h : ∀ σ F H, nx σ F H → n σ H) : Lk { P with nx := nx } { D with nx := n } := ⟨h, L.rt, L.bk, L.ct⟩
theorem ts_set {i : Nat} {mr : α → S → Prop} (h : PS X st (tAsg (tE B Γ R m) (gName i))) (hr : ∀ x, PSs X rest (tS B (fun s => (Γ s).set i (.im (R x))) P (mr x))) : PSs X (st :: rest) (tS B Γ P (fun s => m s fun x s1 => mr x s1)) :=
  pss_imp (pss_cons h (pss_ex hr)) fun D σ H ⟨s, F, A, hm, L⟩ => ⟨s, F, _, A, hm, fun x s1 v F1 H1 h1 A1 e1 r1 => ⟨x, s1, F1, A1.setIm r1, h1, L⟩⟩
/-- the same: what is stored becomes a part of the state -/
theorem ts_setS {i : Nat} {Γ' : S' → List Sl} {mk : S → α → S'} {mr : S' → Prop} (h : PS X st (tAsg (tE B Γ R m) (gName i))) (hG : ∀ s x, Γ' (mk s x) = (Γ s).set i (.im (R x))) (hr : PSs X rest (tS B Γ' P mr)) : PSs X (st :: rest) (tS B Γ P (fun s => m s fun x s1 => mr (mk s1 x))) :=
  pss_imp (pss_cons h hr) fun D σ H ⟨s, F, A, hm, L⟩ => ⟨s, F, _, A, hm, fun x s1 v F1 H1 h1 A1 e1 r1 => ⟨mk s1 x, F1, by rw [hG]; exact A1.setIm r1, h1, L⟩⟩
/-- a new list, owned -/
theorem ts_setO {i : Nat} {Γ' : S' → List Sl} {mk : S → List α → S'} {mr : S' → Prop} {m : S → (List α → S → Prop) → Prop} (h : PS X st (tAsg (tN B Γ R m) (gName i))) (hG : ∀ s x, Γ' (mk s x) = (Γ s).set i (.ow (OList R x))) (hr : PSs X rest (tS B Γ' P mr)) : PSs X (st :: rest) (tS B Γ P (fun s => m s fun x s1 => mr (mk s1 x))) :=
  pss_imp (pss_cons h hr) fun D σ H ⟨s, F, A, hm, L⟩ => ⟨s, F, _, A, hm, fun x s1 q vs F1 H1 h1 A1 e1 hq fq bq nq av => ⟨mk s1 x, F1, by rw [hG]; exact A1.setOw fq hq bq nq ⟨vs, rfl, av⟩, h1, L⟩⟩
theorem ts_expr {mr : S → Prop} (h : PE X e (tE B Γ R m)) (hr : PSs X rest (tS B Γ P mr)) (hs : swapsWith e none pos.line X.env = pure false := by rfl) : PSs X (.Expr e pos :: rest) (tS B Γ P (fun s => m s fun _ s1 => mr s1)) :=
  pss_imp (pss_cons (ps_expr h hs) hr) fun D σ H ⟨s, F, A, hm, L⟩ => ⟨s, F, _, A, hm, fun x s1 v F1 H1 h1 A1 e1 r1 => ⟨s1, F1, A1, h1, L⟩⟩
/-- the owned list of slot i is not changed any more -/
theorem ts_freeze (i : Nat) {Γ' : S → List Sl} {get : S → List α} {mr : S → Prop} (hG : ∀ s, (Γ s)[i]? = some (.ow (OList R (get s)))) (hG' : ∀ s, Γ' s = (Γ s).set i (.im (RLst R (get s)))) (hr : PSs X rest (tS B Γ' P mr)) : PSs X rest (tS B Γ P mr) :=
  pss_imp hr fun D σ H ⟨s, F, A, hm, L⟩ => by
    obtain ⟨F', A', _⟩ := A.freeze (hG s) (P := RLst R (get s)) fun q o F' ⟨vs, h1, h2⟩ h3 => ⟨q, vs, rfl, by rw [h3, h1], h2⟩
    exact ⟨s, F', by rw [hG']; exact A', hm, L⟩
/-- another word for the same state -/
theorem ts_as {Γ' : S' → List Sl} (π : S → S') {mr : S' → Prop} (hle : ∀ s, Le (Γ s) (Γ' (π s))) (hr : PSs X rest (tS B Γ' P mr)) : PSs X rest (tS B Γ P (fun s => mr (π s))) :=
  pss_imp hr fun D σ H ⟨s, F, A, hm, L⟩ => ⟨π s, F, A.le (hle s), hm, L⟩
theorem ts_if {ma mb : S → (S' → Prop) → Prop} {mr : S' → Prop} (hc : PT X c (tT B Γ mt)) (ha : ∀ Kn, PSs X sa (tS B Γ { P with nx := nxX B Γj Kn } (fun s => ma s Kn))) (hb : ∀ Kn, PSs X sb (tS B Γ { P with nx := nxX B Γj Kn } (fun s => mb s Kn))) (hr : PSs X rest (tS B Γj P mr)) :
    PSs X (.If c sa sb pos :: rest) (tS B Γ P (fun s => mt s fun bb s1 => mIf bb (ma s1) (mb s1) mr)) :=
  pss_imp (pss_cons (ps_if hc (ha mr) (hb mr)) hr) fun D σ H ⟨s, F, A, hm, L⟩ => ⟨s, F, _, A, hm, fun bb s1 F1 H1 h1 A1 e1 => by
    have L' : Lk { P with nx := nxX B Γj mr } { D with nx := fun σ H => tS B Γj P mr D σ H } := lk_nx L fun σ F H ⟨s', k, A'⟩ => ⟨s', F, A', k, L⟩
    cases bb with
    | true => exact iteT ⟨s1, F1, A1, h1, L'⟩
    | false => exact iteF ⟨s1, F1, A1, h1, L'⟩⟩
/-- the first way doesn't come out -/
theorem ts_ifr {ma mr : S → Prop} (hc : PT X c (tT B Γ mt)) (ha : PSs X sa (tS B Γ { P with nx := fun _ _ _ => False } ma)) (hr : PSs X rest (tS B Γ P mr)) :
    PSs X (.If c sa [] pos :: rest) (tS B Γ P (fun s => mt s fun bb s1 => if bb = true then ma s1 else mr s1)) :=
  pss_imp (pss_cons (ps_if hc ha pss_nil) hr) fun D σ H ⟨s, F, A, hm, L⟩ => ⟨s, F, _, A, hm, fun bb s1 F1 H1 h1 A1 e1 => by
    cases bb with
    | true => exact iteT ⟨s1, F1, A1, of_iteT h1, lk_nx L fun σ F H z => z.elim⟩
    | false => exact iteF ⟨s1, F1, A1, of_iteF h1, L⟩⟩
def PSrc (J : It) (R : α → Pd) (xs : List α) : Pd := ⟨fun _ F => Src J F R xs, fun _ F F' e h F1 H1 e1 e2 => h F1 H1 (e.trans e1) e2⟩
theorem ts_for {Γh : S' → List Sl} {mi : S → (List α → S → Prop) → Prop} {mb : α → S' → (S' → Prop) → Prop} {mr : S' → Prop} (π : S → S') (hle : ∀ s, Le (Γ s) (Γh (π s))) (hi : PI X tg it (tI B Γ R mi)) (hg : PG X tg g) (tgt : Tg g R js up)
    (hb : ∀ (q : List (V × Pd)) (x : α) (Kn : S' → Prop), PSs X body (tS { B with pins := q } (fun s => up (Γh s) x) { P with nx := nxX { B with pins := q } Γh Kn, ct := nxX { B with pins := q } Γh Kn, bk := fun _ _ _ => False } (fun s => mb x s Kn))) (hr : PSs X rest (tS B Γh P mr))
    (hp : PassesOwn (model X.prog X.w) X.A X.env X.xe) (hc : X.calm = true := by rfl) (hs : ∀ x, foldedSetIterable it X.env x = pure x := by intro _; rfl) :
    PSs X (.For tg it body [] pos :: rest) (tS B Γ P (fun s => mi s fun xs s1 => mFor xs mb (π s1) mr)) :=
  pss_imp (pss_cons (ps_for hp hc hi hg (pss_ex fun z : List (V × Pd) × α × (S' → Prop) => hb z.1 z.2.1 z.2.2) hs) hr) fun D σ H ⟨s, F, A, hm, L⟩ => ⟨s, F, _, A, hm, fun xs s1 J F1 H1 h1 A1 e1 src => by
    refine ⟨fun i mm σ' H' => ∃ s' F', mm = xs.length - i ∧ i ≤ xs.length ∧ Src J F' R xs ∧ At B (Γh s') σ' F' H' ∧ mFor (xs.drop i) mb s' mr, ⟨xs.length, π s1, F1, by simp, Nat.zero_le _, src, A1.le (hle s1), by simpa using h1⟩, ?_⟩
    rintro i mm σ' H' ⟨s', F', rfl, hi, src', A', hk⟩
    obtain ⟨z1, z2, z3⟩ := src' F' H' (Same.refl _) A'.sub
    by_cases hlt : i < xs.length
    · rw [List.drop_eq_getElem_cons hlt] at hk
      refine .inr ⟨z2 i hlt, fun σ2 H2 => ∃ s' F', i + 1 ≤ xs.length ∧ Src J F' R xs ∧ At B (Γh s') σ2 F' H2 ∧ mFor (xs.drop (i + 1)) mb s' mr, fun σ2 H2 ⟨s2, F2, q1, q2, q3, q4⟩ => ⟨xs.length - (i + 1), by omega, s2, F2, rfl, q1, q2, q3, q4⟩, fun v H2 hy => ?_⟩
      obtain ⟨F2, f1, f2, f3, f4, f5⟩ := z3 i xs[i] v H2 (List.getElem?_eq_getElem hlt) hy
      have A2 := (A'.grow f1 f2 f3 f4).pinned (v := .non) (P := PSrc J R xs) ((PSrc J R xs).mono .non _ _ f1 src')
      refine tgt.run A2 f5 fun σ3 A3 _ => ?_
      have hk : mb xs[i] s' fun s2 => mFor (xs.drop (i + 1)) mb s2 mr := hk
      have out : ∀ σ4 F4 H4, nxX { B with pins := (.non, PSrc J R xs) :: B.pins } Γh (fun s2 => mFor (xs.drop (i + 1)) mb s2 mr) σ4 F4 H4 → ∃ s' F', i + 1 ≤ xs.length ∧ Src J F' R xs ∧ At B (Γh s') σ4 F' H4 ∧ mFor (xs.drop (i + 1)) mb s' mr := fun σ4 F4 H4 ⟨s4, k4, A4⟩ => by
        obtain ⟨A5, p5⟩ := A4.unpinned
        exact ⟨s4, F4, hlt, p5, A5, k4⟩
      exact ⟨⟨(.non, PSrc J R xs) :: B.pins, xs[i], fun s2 => mFor (xs.drop (i + 1)) mb s2 mr⟩, s', F2, A3, hk, ⟨out, L.rt, fun _ _ _ z => z.elim, out⟩⟩
    · have e : i = xs.length := by omega
      subst e
      rw [List.drop_length] at hk
      exact .inl ⟨z1 _ (Nat.le_refl _), s', F', A', hk, L⟩⟩
theorem ts_while {Γh : S' → List Sl} {mt : S' → (Bool → S' → Prop) → Prop} {mb : S' → (S' → Prop) → Prop} {mr : S' → Prop} (π : S → S') (hle : ∀ s, Le (Γ s) (Γh (π s))) (hc : PT X c (tT B Γh mt))
    (hb : ∀ (Kn : S' → Prop), PSs X body (tS B Γh { P with nx := nxX B Γh Kn, ct := nxX B Γh Kn, bk := fun _ _ _ => False } (fun s => mb s Kn))) (hr : PSs X rest (tS B Γh P mr)) (hp : PassesOwn (model X.prog X.w) X.A X.env X.xe) :
    PSs X (.While c body [] pos :: rest) (tS B Γ P (fun s => mWhile mt mb (π s) mr)) :=
  pss_imp (pss_cons (ps_while hp hc (pss_ex hb)) hr) fun D σ H ⟨s, F, A, ⟨Wm, ⟨n0, w0⟩, step⟩, L⟩ => by
    refine ⟨fun n σ' H' => ∃ s' F', At B (Γh s') σ' F' H' ∧ Wm n s', ⟨n0, π s, F, A.le (hle s), w0⟩, ?_⟩
    rintro n σ' H' ⟨s', F', A', w'⟩
    refine ⟨s', F', fun b s1 => if b = true then mb s1 fun s2 => ∃ n', n' < n ∧ Wm n' s2 else mr s1, A', step n s' w', fun b s1 F1 H1 h1 A1 e1 => ?_⟩
    cases b with
    | true =>
      refine iteT ⟨fun σ2 H2 => ∃ s2 F2, At B (Γh s2) σ2 F2 H2 ∧ ∃ n', n' < n ∧ Wm n' s2, fun σ2 H2 ⟨s2, F2, A2, n', l, w2⟩ => ⟨n', l, s2, F2, A2, w2⟩, ?_⟩
      have out : ∀ σ4 F4 H4, nxX B Γh (fun s2 => ∃ n', n' < n ∧ Wm n' s2) σ4 F4 H4 → ∃ s2 F2, At B (Γh s2) σ4 F2 H4 ∧ ∃ n', n' < n ∧ Wm n' s2 := fun σ4 F4 H4 ⟨s4, k4, A4⟩ => ⟨s4, F4, A4, k4⟩
      exact ⟨fun s2 => ∃ n', n' < n ∧ Wm n' s2, s1, F1, A1, of_iteT h1, ⟨out, L.rt, fun _ _ _ z => z.elim, out⟩⟩
    | false => exact iteF ⟨s1, F1, A1, of_iteF h1, L⟩

/-! ### owned lists -/
variable {get : S → List α} {put : S → List α → S} {xn : Str} {pn apos cpos : Pos} {b : Expr}
abbrev FewArgs (X : Cx) (cp : Pos) (as : List Expr) : Prop := ((backTo cp (starEach as X.env)).all (fun y => !y.1) && (backToKw cp (keywordEach [] X.env)).all (fun y => y.1.isSome) && decide (as.length + ([] : List Keyword).length + (if ([] : List Keyword).isEmpty then 0 else 1) < 30)) = true
theorem te_append (i : Nat) (get : S → List α) (put : S → List α → S) (he : PE X e (tE B Γ R m)) (hG : ∀ s, (Γ s)[i]? = some (.ow (OList R (get s))) := by intro _; rfl) (hP : ∀ s t, Γ (put s t) = (Γ s).set i (.ow (OList R t)) := by intro _ _; rfl)
    (hN : X.N[i]? = some xn := by rfl) (hv : Vis X.env.scope xn := by first | exact Or.inl rfl | exact Or.inr (Or.inl rfl) | exact Or.inr (Or.inr rfl)) (hd : (xn == ("__debug__" : Str)) = false := by decide) (hcd : (xn == ("__classdict__" : Str)) = false := by decide)
    (hs : starEach [e] X.env = (false, eval e X.env) :: starEach [] X.env := by rfl) (hpl : (backTo cpos (starEach [] X.env)).any (·.1) = false := by rfl)
    (hbase : attributeBase (.Name xn pn) "append" X.env (eval (.Name xn pn) X.env) = eval (.Name xn pn) X.env := by rfl) (hline : (apos.endLine == cpos.line) = true := by rfl) (hfew : FewArgs X cpos [e] := by rfl) :
    PE X (.Call (.Attribute (.Name xn pn) "append" apos) [e] [] cpos) (tE B Γ RNon (fun s K => m s fun y s1 => (get s1).length ≤ 1000000 ∧ K () (put s1 (get s1 ++ [y])))) :=
  pe_imp (pe_bm PySem.F.plainAttrs_list PySem.F.slot_list_append PySem.F.type_list_append mt_append (pe_var hN hv hd hcd) (pa_cons he pa_nil hs) hbase hfew hline hs hpl) fun σ H Q ⟨s, F, K', A, hm, k⟩ => by
    obtain ⟨q, o, h1, h2, h3, ⟨vs, h4, h5⟩, h6⟩ := A.ow (hG s)
    subst h4
    refine ⟨_, h1, .inl ⟨rfl, vs, SqL.of h3⟩, s, F, _, A, hm, fun y s1 v F1 H1 ⟨hz, k1⟩ A1 e1 r1 => ?_⟩
    obtain ⟨q', o', g1, g2, g3, ⟨vs', g4, g5⟩, g6⟩ := A1.ow (hG s1)
    rw [h1] at g1
    cases g1
    subst g4
    refine ⟨q, vs', v, rfl, rfl, g3, by rw [g5.len]; exact Nat.lt_of_le_of_lt hz (by decide), k () (put s1 (get s1 ++ [y])) _ F1 _ k1 ?_ e1 rfl⟩
    rw [hP]
    exact A1.write (hG s1) h1 ⟨_, rfl, g5.append ⟨r1, trivial⟩⟩
theorem te_pop (i : Nat) (get : S → List α) (put : S → List α → S) (hG : ∀ s, (Γ s)[i]? = some (.ow (OList R (get s))) := by intro _; rfl) (hP : ∀ s t, Γ (put s t) = (Γ s).set i (.ow (OList R t)) := by intro _ _; rfl)
    (hN : X.N[i]? = some xn := by rfl) (hv : Vis X.env.scope xn := by first | exact Or.inl rfl | exact Or.inr (Or.inl rfl) | exact Or.inr (Or.inr rfl)) (hd : (xn == ("__debug__" : Str)) = false := by decide) (hcd : (xn == ("__classdict__" : Str)) = false := by decide)
    (hbase : attributeBase (.Name xn pn) "pop" X.env (eval (.Name xn pn) X.env) = eval (.Name xn pn) X.env := by rfl) (hline : (apos.endLine == cpos.line) = true := by rfl) :
    PE X (.Call (.Attribute (.Name xn pn) "pop" apos) [] [] cpos) (tE B Γ R (fun s K => ∃ y, (get s)[(get s).length - 1]? = some y ∧ K y (put s (get s).dropLast))) :=
  pe_imp (pe_bm0 PySem.F.plainAttrs_list PySem.F.slot_list_pop PySem.F.type_list_pop mt_pop (pe_var hN hv hd hcd) hbase hline) fun σ H Q ⟨s, F, K', A, ⟨y, hy, hm⟩, k⟩ => by
    obtain ⟨q, o, h1, h2, h3, ⟨vs, h4, h5⟩, h6⟩ := A.ow (hG s)
    subst h4
    obtain ⟨v, hv, rv⟩ := h5.get hy
    refine ⟨_, h1, .inl ⟨rfl, vs, SqL.of h3⟩, q, vs, v, rfl, rfl, h3, by rw [h5.len]; exact hv, k y (put s (get s).dropLast) v F _ hm ?_ (Same.refl _) rv⟩
    rw [hP]
    exact A.write (hG s) h1 ⟨_, rfl, h5.dropLast⟩
theorem te_ownLen (i : Nat) (get : S → List α) (Pl : BP X "len" (.builtin "len")) (hG : ∀ s, (Γ s)[i]? = some (.ow (OList R (get s))) := by intro _; rfl) (hN : X.N[i]? = some xn := by rfl) (hv : Vis X.env.scope xn := by first | exact Or.inl rfl | exact Or.inr (Or.inl rfl) | exact Or.inr (Or.inr rfl)) (hd : (xn == ("__debug__" : Str)) = false := by decide) (hcd : (xn == ("__classdict__" : Str)) = false := by decide)
    (hs : starEach [.Name xn pn] X.env = (false, eval (.Name xn pn) X.env) :: starEach [] X.env := by rfl) (hpl : (backTo pos (starEach [] X.env)).any (·.1) = false := by rfl) :
    PE X (.Call (.Name "len" p) [.Name xn pn] [] pos) (tE B Γ RInt (fun s K => K ((get s).length : Int) s)) :=
  pe_imp (pe_bf Pl call_len_seq (pa_cons (pe_var hN hv hd hcd) pa_nil hs) hs hpl) fun σ H Q ⟨s, F, K', A, hm, k⟩ => by
    obtain ⟨q, o, h1, h2, h3, ⟨vs, h4, h5⟩, h6⟩ := A.ow (hG s)
    subst h4
    exact ⟨_, h1, q, vs, rfl, .inl (SqL.of h3), by rw [h5.len]; exact k _ s _ F H hm A (Same.refl _) rfl⟩
theorem te_ownIx (i : Nat) (get : S → List α) {mb : S → (Int → S → Prop) → Prop} (hb : PE X b (tE B Γ RInt mb)) (hG : ∀ s, (Γ s)[i]? = some (.ow (OList R (get s))) := by intro _; rfl) (hN : X.N[i]? = some xn := by rfl) (hv : Vis X.env.scope xn := by first | exact Or.inl rfl | exact Or.inr (Or.inl rfl) | exact Or.inr (Or.inr rfl)) (hd : (xn == ("__debug__" : Str)) = false := by decide) (hcd : (xn == ("__classdict__" : Str)) = false := by decide)
    (hs : PlainIx b := by exact fun _ _ => rfl) :
    PE X (.Subscript (.Name xn pn) b pos) (tE B Γ R (fun s K => mb s fun j s1 => ∃ y, pyAt (get s1) j = some y ∧ K y s1)) :=
  pe_imp (pe_ix ix_list (pe_var hN hv hd hcd) hb hs) fun σ H Q ⟨s, F, K', A, hm, k⟩ => by
    obtain ⟨q, o, h1, h2, h3, ⟨vs, h4, h5⟩, h6⟩ := A.ow (hG s)
    refine ⟨_, h1, s, F, _, A, hm, fun j s1 w F1 H1 ⟨y, hy, k1⟩ A1 e1 r1 => ?_⟩
    obtain ⟨q', o', g1, g2, g3, ⟨vs', g4, g5⟩, g6⟩ := A1.ow (hG s1)
    rw [h1] at g1
    cases g1
    subst g4
    obtain ⟨u, hu, ru⟩ := allR_at g5 hy
    exact ⟨q, vs', j, u, rfl, r1, SqL.of g3, hu, k y s1 u F1 H1 k1 A1 e1 ru⟩
/-- found != [], found == [] -/
theorem dpAllH {F H : Hp} {d : α → PyData} {n : Nat} (hK : X.K = K) (h : Dat K R d n) (e : Same F H) {xs : List α} {vs : List V} (av : AllR R xs vs F) : DpAll X.K H vs (xs.map d) := by
  subst hK
  induction xs generalizing vs with
  | nil => cases vs with | nil => exact .nil | cons => exact av.elim
  | cons x xs ih => cases vs with | nil => exact av.elim | cons v vs => exact .cons (Dp.same e (h.dp x v F av.1)) (ih av.2)
theorem tt_ownNe0 (i : Nat) (get : S → List α) {d : α → PyData} {n : Nat} {p1 : Pos} (hu : X.A.units + 64 < cLine) (h : Dat K R d n) (hn : n ≤ 50 := by decide) (hG : ∀ s, (Γ s)[i]? = some (.ow (OList R (get s))) := by intro _; rfl) (hN : X.N[i]? = some xn := by rfl) (hv : Vis X.env.scope xn := by first | exact Or.inl rfl | exact Or.inr (Or.inl rfl) | exact Or.inr (Or.inr rfl)) (hd : (xn == ("__debug__" : Str)) = false := by decide) (hcd : (xn == ("__classdict__" : Str)) = false := by decide) (hK : X.K = K := by rfl) :
    PT X (.Compare (.Name xn pn) [.NotEq] [.List [] p1] pos) (tT B Γ (fun s K => K (!(get s).isEmpty) s)) :=
  pt_imp (pt_cmpR (op_neD hu) (pe_var hN hv hd hcd) (pe_lst pa_nil) (nomark _)) fun σ H Q ⟨s, F, K', A, hm, k⟩ => by
    obtain ⟨q, o, h1, h2, h3, ⟨vs, h4, h5⟩, h6⟩ := A.ow (hG s)
    subst h4
    refine ⟨_, h1, Nat.zero_le _, fun r nr => ?_⟩
    have A2 := A.layH (o := .lst []) nr
    have nq : q ≠ r := ne_of_none h3 nr
    refine ⟨.list ((get s).map d), .list [], .lst (SqL.of (by rw [upd_ne nq]; exact h3)) (dpAllH hK h A2.sub h5), .lst (SqL.of upd_same) .nil, ?_, rfl, ?_⟩
    · have hl : PyData.depthAll ((get s).map d) ≤ n := depAll h.dep _
      have hl2 : (PyData.list ((get s).map d)).depth ≤ 64 := by
        show PyData.depthAll ((get s).map d) + 1 ≤ 64
        omega
      unfold SeqAt.shaped
      rw [show PyData.canLay0 (.list ((get s).map d)) = true from canAll h.lay _, decide_eq_true hl2]
      rfl
    · have : (!PyData.eqv (.list ((get s).map d)) (.list [])) = !(get s).isEmpty := by
        cases get s with
        | nil => rfl
        | cons x xs => rfl
      rw [this]
      exact ⟨_, rfl, k _ s F _ hm A2 (Same.refl _)⟩
theorem tn_ownTuple (i : Nat) (get : S → List α) (Pl : BP X "tuple" (.type "tuple")) (hG : ∀ s, (Γ s)[i]? = some (.ow (OList R (get s))) := by intro _; rfl) (hN : X.N[i]? = some xn := by rfl) (hv : Vis X.env.scope xn := by first | exact Or.inl rfl | exact Or.inr (Or.inl rfl) | exact Or.inr (Or.inr rfl)) (hd : (xn == ("__debug__" : Str)) = false := by decide) (hcd : (xn == ("__classdict__" : Str)) = false := by decide)
    (hs : starEach [.Name xn pn] X.env = (false, eval (.Name xn pn) X.env) :: starEach [] X.env := by rfl) (hpl : (backTo pos (starEach [] X.env)).any (·.1) = false := by rfl) :
    PE X (.Call (.Name "tuple" p) [.Name xn pn] [] pos) (tE B Γ (RTup K R) (fun s K => K (get s) s)) :=
  pe_imp (pe_bt Pl call_tuple_of (pa_cons (pe_var hN hv hd hcd) pa_nil hs) hs hpl) fun σ H Q ⟨s, F, K', A, hm, k⟩ => by
    obtain ⟨q, o, h1, h2, h3, ⟨vs, h4, h5⟩, h6⟩ := A.ow (hG s)
    subst h4
    refine ⟨_, h1, q, vs, rfl, .inl ⟨SqL.of h3, fun l nl => ?_⟩⟩
    obtain ⟨A2, e2⟩ := A.lay (o := .tup vs) nl
    exact k _ s _ _ _ hm A2 e2 ⟨l, vs, rfl, SqT.of upd_same, h5.mono e2⟩
end

theorem ts_use {X : Cx} {S : Type} {B : Bs} {Γ : S → List Sl} {P : Xt} {ss : List Stmt} {m m' : S → Prop} (h : PSs X ss (tS B Γ P m')) (i : ∀ s, m s → m' s) : PSs X ss (tS B Γ P m) :=
  pss_imp h fun D σ H ⟨s, F, A, hm, L⟩ => ⟨s, F, A, i s hm, L⟩

/-! ### a def by its body -/
def startG (N : List Str) (Ps : List Pd) : List Sl := Ps.map .im ++ List.replicate (N.length - Ps.length) .any
theorem fits_start {B : Bs} {F H : Hp} (n : Nat) : ∀ {Ps : List Pd} {vs : List V}, AllP Ps vs F → Fits B F H (Ps.map .im ++ List.replicate n .any) (vs.map some ++ List.replicate n none) ∧ owA (Ps.map .im ++ List.replicate n .any) (vs.map some ++ List.replicate n none) = []
  | [], [], _ => by
    induction n with
    | zero => exact ⟨trivial, rfl⟩
    | succ n ih =>
      rw [List.replicate_succ, List.replicate_succ]
      exact ⟨⟨trivial, ih.1⟩, ih.2⟩
  | P :: Ps, v :: vs, h => by
    obtain ⟨r1, r2⟩ := fits_start (B := B) (H := H) n h.2
    exact ⟨⟨⟨v, rfl, h.1⟩, r1⟩, r2⟩
section
variable {P : Program} {w : World} {K : PySem.W.Frag} {mg : Str → Option Value} {base : Heap} {xq qual : Str} {st : Stmt} {f : Addr} {fd : FuncData} {N ps : List Str} {k : Nat} {ι α T : Type} {As : ι → List Pd} {R : α → Pd} {O : T → Od}
theorem fnP {mf : ι → (α → Prop) → Prop} (F : Fun K xq qual st f fd) (Sc : FnScope N ps (defScope st)) (hl : ∀ y, (As y).length = ps.length)
    (hb : ∀ (cdv : Value) (A : Around) (outer : List Env) (s : Shared) (H : Hp) (E : XK), Room k (A.deeper (PyProof.Rows.envOfC qual (defScope st) s.heap.objs.size f cdv)) → ∀ (y : ι) (Kf : α → Prop) (B : Bs),
      PSs (cxOf CX0 P w K mg base N qual (defScope st) f cdv A outer s H E).nox (defBody st) (tS B (fun _ : Unit => startG N (As y)) (xP B R Kf) (fun _ => mf y Kf))) : FnOk P w K mg base CX0 (k + 1) f fd ps (spP As R mf) := by
  refine F.ok Sc (fun vs H Q E ⟨y, F, K', h1, _⟩ => by rw [h1.len, hl]) fun cdv A outer s H vs Q E hr ⟨y, F0, K', h1, h2, h3, h4⟩ => ⟨_, hb cdv A outer s H E hr y K' ⟨F0, H, fun _ => False, []⟩, (), F0, ?_, h3, ?_⟩
  · have hN : (As y).length ≤ N.length := by
      rw [hl]
      have := congrArg List.length Sc.pre
      rw [List.length_take] at this
      omega
    have hv : vs.length = (As y).length := h1.len
    obtain ⟨r1, r2⟩ := fits_start (B := ⟨F0, H, fun _ => False, []⟩) (H := H) (N.length - (As y).length) h1
    refine ⟨h2, Same.refl _, fun a o e _ => e, fun a o e => .inl e, ?_, ?_, fun a z => z.elim, fun _ z => nomatch z⟩
    · show Fits _ F0 H (startG N (As y)) (L2.start N vs)
      unfold startG L2.start
      rw [hv]
      exact r1
    · show (owA (startG N (As y)) (L2.start N vs)).Nodup
      unfold startG L2.start
      rw [hv, r2]
      exact List.Pairwise.nil
  · refine ⟨fun σ F' H' ⟨r, q1, q2, q3, q4, q5, q6⟩ => h4 r .non F' H' q1 q2 q3 (fun a o e => q5 a o e id) q4 q6, fun v F' H' ⟨r, q1, q2, q3, q4, q5, q6⟩ => h4 r v F' H' q1 q2 q3 (fun a o e => q5 a o e id) q4 q6, fun _ _ _ z => z.elim, fun _ _ _ z => z.elim⟩
theorem fnB {mf : ι → T → (α → T → Prop) → Prop} (F : Fun K xq qual st f fd) (Sc : FnScope N ps (defScope st)) (hl : ∀ y, (As y).length + 1 = ps.length)
    (hb : ∀ (cdv : Value) (A : Around) (outer : List Env) (s : Shared) (H : Hp) (E : XK), Room k (A.deeper (PyProof.Rows.envOfC qual (defScope st) s.heap.objs.size f cdv)) → ∀ (j : Addr) (y : ι) (Kf : α → T → Prop) (B : Bs),
      PSs (cxOf CX0 P w K mg base N qual (defScope st) f cdv A outer s H E).nox (defBody st) (tS B (fun t : T => .bo j (O t) :: ((As y).map .im ++ List.replicate (N.length - (As y).length - 1) .any)) (xB B j O R Kf) (fun t => mf y t Kf))) : FnOk P w K mg base CX0 (k + 1) f fd ps (spB O As R mf) := by
  refine F.ok Sc (fun vs H Q E ⟨y, t, F, K', j, ws, o, h1, h2, _⟩ => by rw [h1, List.length_cons, h2.len, hl]) fun cdv A outer s H vs Q E hr ⟨y, t, F0, K', j, ws, o, h0, h1, h2, hj1, hj2, hj3, h3, h4⟩ => ⟨_, hb cdv A outer s H E hr j y K' ⟨F0, H, fun a => a = j, []⟩, t, F0, ?_, h3, ?_⟩
  · subst h0
    have hN : (As y).length + 1 ≤ N.length := by
      rw [hl]
      have := congrArg List.length Sc.pre
      rw [List.length_take] at this
      omega
    have hv : ws.length = (As y).length := h1.len
    obtain ⟨r1, r2⟩ := fits_start (B := ⟨F0, H, fun a => a = j, []⟩) (H := H) (N.length - (As y).length - 1) h1
    have es : L2.start N (.ref j :: ws) = some (.ref j) :: (ws.map some ++ List.replicate (N.length - (As y).length - 1) none) := by
      unfold L2.start
      rw [List.map_cons, List.cons_append, List.length_cons, hv, Nat.sub_add_eq]
    refine ⟨h2, Same.refl _, fun a o e _ => e, fun a o e => .inl e, ?_, ?_, fun a z => ?_, fun _ z => nomatch z⟩
    · rw [es]
      exact ⟨⟨o, rfl, hj1, hj2, hj3, rfl⟩, r1⟩
    · rw [es]
      show ([j] ++ owA _ _).Nodup
      rw [r2]
      simp
    · have z : a = j := z
      subst z
      exact ⟨hj1, ⟨o, hj2⟩, o, hj2⟩
  · refine ⟨fun σ F' H' ⟨r, t', o', q1, q2, ⟨q3, q4, q5, q6⟩, q7, q8, q9⟩ => h4 r t' .non F' H' o' q1 q2 q3 (fun a u na e => q5 a u e na) q4 q6 q7 q8 q9, fun v F' H' ⟨r, t', o', q1, q2, ⟨q3, q4, q5, q6⟩, q7, q8, q9⟩ => h4 r t' v F' H' o' q1 q2 q3 (fun a u na e => q5 a u e na) q4 q6 q7 q8 q9, fun _ _ _ z => z.elim, fun _ _ _ z => z.elim⟩
end
end TL
namespace TL
open PySem L2

/-! ### == and != of instances by the text's own __eq__ -/
section
variable {prog : Program} {w : World} {A : Around} {E : Value → Shared → Prop} {s : Shared} {K : PySem.W.Frag} {x y C f : Addr} {ox oy : Obj} {od : Option Obj}
theorem slot_own {id owner n : String} {rest : List Value} {Q : Unit → Shared → Prop} (hk : builtinKind id = some .slot) (hs : splitId id = some (owner, n)) (ha : argsOk id ⟨.ref x :: rest, []⟩)
    (X : K.In s.heap) (I : PySem.W.InstAt s.heap x ox C od) (hM : PySem.W.mroIn K C (.type owner) = some true) (hq : Q () s) : wpAny (model prog w) A (checkBuiltinCall id ⟨.ref x :: rest, []⟩) Q E s := by
  simp only [checkBuiltinCall, hk, hs]
  refine wpAny_bind ?_
  unfold isInstance
  refine wpAny_bind (I.type.here ?_)
  refine (PySem.W.looks_mroIn X hM).here ?_
  simp only [Bool.not_true, Bool.false_eq_true, if_false]
  cases hsig : Manifest.signature? id with
  | none => exact wpAny_pure hq
  | some sig =>
    simp only [argsOk, hsig] at ha
    have h2 : Bind.checkArgs id sig ⟨.ref x :: rest, []⟩ = pure () := ha
    show wpAny (model prog w) A (Bind.checkArgs id sig ⟨.ref x :: rest, []⟩) Q E s
    rw [h2]
    exact wpAny_pure hq
theorem ne_body {Q : PySem.Fin → Shared → Prop} (hu : A.units < cLine) (X : K.In s.heap) (I : PySem.W.InstAt s.heap x ox C od) (he : PySem.W.findIn K (.ref C) "__eq__" = some (some (.ref f))) (hf : PySem.W.isFn K (.ref f) = true)
    (hcall : wpAny (model prog w) A (call (.ref f) [.ref x, .ref y]) (fun v s' => ∃ b, v = .bool b ∧ Q (.done (.ret (.bool (!b)))) s') E s) : wpAny (model prog w) A (Builtin.«object.__ne__» ⟨[.ref x, .ref y], []⟩) Q E s := by
  unfold Builtin.«object.__ne__»
  repeat (first
    | with_reducible refine wpAny_cRoomFor hu ?_
    | (refine wpAny_bind (m := callSpecialIfBound? (.ref x) (Str.ofString "__eq__") [.ref y]) (PySem.W.ifBound_K X I he hf (wpAny_mono hcall (fun r s' hr => by
          obtain ⟨b, rfl, hq⟩ := hr
          repeat (first | exact hq | exact wpAny_pure hq | exact wpAny_truthy_bool hq | (refine wpAny_bind (m := truthy (.bool _)) (wpAny_truthy_bool ?_)) | wp_step)) fun _ _ e => e)))
    | wp_step)
theorem ne_own {Q : Value → Shared → Prop} (hu : A.units + 1 < cLine) (X : K.In s.heap) (I : PySem.W.InstAt s.heap x ox C od) (Ty : PySem.W.Looks (model prog w) s.heap (typeOf (.ref y)) (.ref C)) (hn : PySem.W.findIn K (.ref C) "__ne__" = some (some (.builtin "object.__ne__"))) (hM : PySem.W.mroIn K C (.type "object") = some true)
    (he : PySem.W.findIn K (.ref C) "__eq__" = some (some (.ref f))) (hf : PySem.W.isFn K (.ref f) = true)
    (hcall : wpAny (model prog w) A.in1 (call (.ref f) [.ref x, .ref y]) (fun v s' => ∃ b, v = .bool b ∧ Q (.bool (!b)) s') E s) : wpAny (model prog w) A (richCompare .NotEq (.ref x) (.ref y)) Q E s := by
  have S := PySem.F.cmp_object.ne
  have called : wpAny (model prog w) A (call (.builtin "object.__ne__") [.ref x, .ref y]) (fun v s' => ∃ b, v = .bool b ∧ Q (.bool b) s') E s :=
    wpAny_call (codeAny_call_builtin S.plain PySem.F.cmpEntry_ne (slot_own PySem.F.cmpKind_ne PySem.F.cmpSplit_ne (PySem.F.cmpArgs_ne _ _) X I hM (ne_body (A := A.in1) hu X I he hf (wpAny_mono hcall (fun v s' ⟨b, hb, hq⟩ => ⟨b, hb, !b, rfl, hq⟩) fun _ _ e => e))))
  have one : wpAny (model prog w) A (tryCompare (.ref x) "__ne__" (.ref y)) (fun r s' => ∃ v, r = some v ∧ Q v s') E s := by
    unfold tryCompare
    simp only [callSpecialIfBound?, bindSpecialIfBound?]
    refine wpAny_bind (wpAny_holding (wpAny_bind (wpAny_bind (wpAny_bind (I.type.here ((PySem.W.looks_findIn X hn).here ?_))))))
    simp only [S.bind]
    refine wpAny_bind (wpAny_askSetting (wpAny_ite ?_))
    have fin : wpAny (model prog w) A (call (.builtin "object.__ne__") ([.ref x] ++ [.ref y]) >>= fun v => pure (some v)) (fun r s' => wpAny (model prog w) A (match r with | some .notImplemented => pure none | none => pure none | some v => pure (some v)) (fun r s' => ∃ v, r = some v ∧ Q v s') E s') E s :=
      wpAny_bind (wpAny_mono called (fun v s' ⟨b, hb, hq⟩ => by subst hb; exact wpAny_pure (wpAny_pure ⟨_, rfl, hq⟩)) fun _ _ h' => h')
    split
    · exact wpAny_bind (wpAny_pure (wpAny_pure fin))
    · exact wpAny_tryCatch (wpAny_bind (wpAny_pure (wpAny_pure fin)))
  unfold richCompare
  simp only [oneThing_ref]
  refine wpAny_holding (wpAny_bind (wpAny_cRoomFor (Nat.lt_of_succ_lt hu) ?_))
  rw [cmpInfo_NotEq]
  dsimp only
  refine wpAny_bind (I.type.here (wpAny_bind (Ty.here ?_)))
  rw [show (Value.ref C != Value.ref C) = false from by simp]
  simp only [Bool.false_eq_true, if_false]
  refine wpAny_bind (wpAny_pure ?_)
  simp only [Bool.false_eq_true, if_false]
  refine wpAny_bind (wpAny_mono one (fun r s' z => ?_) fun _ _ e => e)
  obtain ⟨v, rfl, hq⟩ := z
  exact wpAny_pure hq
end
section
variable {X : Cx} {α β : Type} {Ra : α → Pd} {Rb : β → Pd} {C D f : Addr} {fd : FuncData} {ps : List Str} {k : Nat} {mf : α × β × Unit → (Bool → Prop) → Prop} {g : α → β → Bool}
/-- what is an instance -/
def IsI (R : α → Pd) (C : Addr) : Prop := ∀ x v F, (R x).p v F → ∃ a dx fs, v = .ref a ∧ F a = some (.ins C dx fs)
def rOwn (sp : Sp) (C : Addr) : R2 := fun x y H Q => (∃ a b dx dy fs gs, x = .ref a ∧ y = .ref b ∧ H a = some (.ins C dx fs) ∧ H b = some (.ins C dy gs)) ∧ sp [x, y] H Q E0
theorem run_own {sp : Sp} {B : XK} {pins : List (Addr × Obj)} {s : Shared} {σ : L2.St} {H : Hp} {a b : Addr} {Q : VK} {Ar : Around} (Fn : FnOk X.prog X.w X.K X.mg X.base CX0 k f fd ps sp) (hb : Binds X.K fd ps []) (hr : Room k Ar) (hfr : Ar.frames = X.A.frames) (I : Inv X pins σ H s) (hsp : sp [.ref a, .ref b] H Q E0) :
    wpAny (model X.prog X.w) Ar (call (.ref f) [.ref a, .ref b]) (EP X pins σ Q) X.xe s := by
  have e := I.env0
  have e0 : Env0 X.prog X.w X.K X.mg X.base Ar X.stack s H := ⟨by rw [hfr]; exact e.frames, e.mod, e.bs, e.bsz, e.funs, e.frf, e.hok, e.bare⟩
  have hl := Fn.len _ _ _ _ hsp
  have r2 : Vals [V.ref a, V.ref b] [Value.ref a, Value.ref b] := .cons rfl (.cons rfl .nil)
  refine wpAny_call (codeAny_mono (Fn.run Ar X.stack s H ⟨[.ref a, .ref b], []⟩ [.ref a, .ref b] [.ref a, .ref b] Q E0 hr e0 (by
    have z := hb s [.ref a, .ref b] I.kIn (by simpa using hl)
    simpa using z) r2 hsp) fun r s' hq => ?_)
  cases r with
  | error ev => exact pass0 (X := X) pins σ H s ev s' I hq
  | ok fl =>
    cases fl with
    | ret u =>
      obtain ⟨z, H', I', rz, q⟩ := I.after hq
      exact ⟨z, H', I', rz, q⟩
    | next => exact False.elim hq
    | brk => exact False.elim hq
    | cont => exact False.elim hq
theorem cr_ownEq (h1 : IsI Ra C) (h2 : IsI Rb C) (Fn : FnOk X.prog X.w X.K X.mg X.base CX0 k f fd ps (spP (acons Ra (acons Rb anil)) RBool mf)) (hm : ∀ x y Kf, Kf (g x y) → mf (x, y, ()) Kf) (hs : PySem.W.findIn X.K (.ref C) "__eq__" = some (some (.ref f))) (hf : PySem.W.isFn X.K (.ref f) = true) (hb : Binds X.K fd ps []) (hr : Room k X.A) : CR X .Eq Ra Rb g := by
  refine ⟨fun x y H Q => (∃ a b dx dy fs gs, x = .ref a ∧ y = .ref b ∧ H a = some (.ins C dx fs) ∧ H b = some (.ins C dy gs)) ∧ spP (acons Ra (acons Rb anil)) RBool mf [x, y] H (fun v H' => (∃ c, v = .bl c) ∧ Q v H') E0, ?_, ?_⟩
  · intro pins s σ H x y v u Q I rx ry ⟨⟨a, b, dx, dy, fs, gs, ex, ey, ha, hb'⟩, hsp⟩
    subst ex; subst ey
    cases rx; cases ry
    obtain ⟨mA, J, _⟩ := ins_get I.hok ha
    obtain ⟨mB, J', _⟩ := ins_get I.hok hb'
    obtain ⟨od, J, _⟩ := J.look
    obtain ⟨od', J', _⟩ := J'.look
    obtain ⟨m, hF⟩ := I.fr
    show wpAny (model X.prog X.w) X.A (richCompare .Eq (.ref a) (.ref b)) _ _ s
    refine PySem.W.cmp_K (op := .Eq) (tb := .ref C) hr.units0 hF I.ok.mod.kin J J'.type (by simp [PySem.W.notFirst]) hs hf ?_
    refine wpAny_mono (run_own (B := E0) Fn hb hr rfl I hsp) (fun r s' ⟨z, H', I', rz, ⟨c, ec⟩, q⟩ => ?_) fun _ _ e => e
    subst ec
    cases (show r = Value.bool c from rz)
    exact ⟨.bl c, H', I', rfl, q⟩
  · intro x y v w F H Q hx hy e q
    obtain ⟨a, dx, fs, ea, ha⟩ := h1 x v F hx
    obtain ⟨b, dy, gs, eb, hb'⟩ := h2 y w F hy
    refine ⟨⟨a, b, dx, dy, fs, gs, ea, eb, e _ _ ha, e _ _ hb'⟩, (x, y, ()), F, fun r => r = g x y, ⟨hx, hy, trivial⟩, e, hm x y _ rfl, fun r v' F' H' hr' hv z1 z2 z3 z4 => ?_⟩
    have hv : v' = .bl r := hv
    subst hv; subst hr'
    exact ⟨⟨_, rfl⟩, q F' H' z1 z2 z3 z4⟩
theorem cr_ownNe (h1 : IsI Ra C) (h2 : IsI Rb C) (Fn : FnOk X.prog X.w X.K X.mg X.base CX0 k f fd ps (spP (acons Ra (acons Rb anil)) RBool mf)) (hm : ∀ x y Kf, Kf (g x y) → mf (x, y, ()) Kf) (hs : PySem.W.findIn X.K (.ref C) "__eq__" = some (some (.ref f))) (hf : PySem.W.isFn X.K (.ref f) = true) (hn : PySem.W.findIn X.K (.ref C) "__ne__" = some (some (.builtin "object.__ne__"))) (hM : PySem.W.mroIn X.K C (.type "object") = some true)
    (hb : Binds X.K fd ps []) (hr : Room (k + 1) X.A) : CR X .NotEq Ra Rb (fun x y => !g x y) := by
  refine ⟨fun x y H Q => (∃ a b dx dy fs gs, x = .ref a ∧ y = .ref b ∧ H a = some (.ins C dx fs) ∧ H b = some (.ins C dy gs)) ∧ spP (acons Ra (acons Rb anil)) RBool mf [x, y] H (fun v H' => ∃ c, v = .bl c ∧ Q (.bl (!c)) H') E0, ?_, ?_⟩
  · intro pins s σ H x y v u Q I rx ry ⟨⟨a, b, dx, dy, fs, gs, ex, ey, ha, hb'⟩, hsp⟩
    subst ex; subst ey
    cases rx; cases ry
    obtain ⟨mA, J, _⟩ := ins_get I.hok ha
    obtain ⟨mB, J', _⟩ := ins_get I.hok hb'
    obtain ⟨od, J, _⟩ := J.look
    obtain ⟨od', J', _⟩ := J'.look
    show wpAny (model X.prog X.w) X.A (richCompare .NotEq (.ref a) (.ref b)) _ _ s
    have hu : X.A.units + 1 < cLine := by have := hr.units; omega
    refine ne_own hu I.kIn J J'.type hn hM hs hf ?_
    refine wpAny_mono (run_own (B := E0) (Ar := X.A.in1) Fn hb hr.in1 rfl I hsp) (fun r s' ⟨z, H', I', rz, c, ec, q⟩ => ?_) fun _ _ e => e
    subst ec
    cases (show r = Value.bool c from rz)
    exact ⟨c, rfl, .bl (!c), H', I', rfl, q⟩
  · intro x y v w F H Q hx hy e q
    obtain ⟨a, dx, fs, ea, ha⟩ := h1 x v F hx
    obtain ⟨b, dy, gs, eb, hb'⟩ := h2 y w F hy
    refine ⟨⟨a, b, dx, dy, fs, gs, ea, eb, e _ _ ha, e _ _ hb'⟩, (x, y, ()), F, fun r => r = g x y, ⟨hx, hy, trivial⟩, e, hm x y _ rfl, fun r v' F' H' hr' hv z1 z2 z3 z4 => ?_⟩
    have hv : v' = .bl r := hv
    subst hv; subst hr'
    exact ⟨_, rfl, q F' H' z1 z2 z3 z4⟩
end

/-! ### t[::-1] of a tuple -/
section
variable {prog : Program} {w : World} {A : Around} {E : Value → Shared → Prop} {s : Shared}
theorem step_back {sl : Addr} {tk : Tok} {n : Nat} {Q : Int × Int × Nat → Shared → Prop} (hs : s.heap.IsSliceOf sl .none .none (.int (-1) tk)) (h : Q ((n : Int) - 1, -1, n) s) : wpAny (model prog w) A (Builtin.Slice.sliceApplied (.ref sl) (pure (n : Int))) Q E s := by
  obtain ⟨os, hos, hcs, hds⟩ := id hs
  unfold Builtin.Slice.sliceApplied Builtin.Slice.sliceFields
  refine wpAny_bind (wpAny_bind (wpAny_field hos hds (x := .none) rfl (wpAny_bind (wpAny_field hos hds (x := .none) rfl (wpAny_bind (wpAny_field hos hds (x := .int (-1) tk) rfl (wpAny_pure ?_)))))))
  refine wpAny_bind (HT.slicePart_ (.int (-1) tk) ?_)
  show wpAny _ _ (if (((some (-1 : Int)).getD 1) == 0) = true then _ else _) _ _ s
  rw [if_neg (by decide)]
  refine wpAny_bind (HT.slicePart_ .none (wpAny_bind (HT.slicePart_ .none (wpAny_bind (wpAny_pure ?_)))))
  have e1 : Builtin.Slice.sliceAdjust none none (-1) (n : Int) = ((n : Int) - 1, -1) := by
    unfold Builtin.Slice.sliceAdjust
    simp
  have e2 : Builtin.Slice.slicePlaces ((n : Int) - 1) (-1) (-1) = n := by
    unfold Builtin.Slice.slicePlaces
    simp only [show ¬ ((-1 : Int) > 0) by decide, if_false, show (- -1 : Int) = 1 by decide, Int.ediv_one]
    split <;> omega
  show wpAny _ _ (match Builtin.Slice.sliceAdjust none none (-1) (n : Int) with | (lo, hi) => pure (lo, (-1 : Int), Builtin.Slice.slicePlaces lo hi (-1))) _ _ s
  rw [e1]
  show wpAny _ _ (pure ((n : Int) - 1, (-1 : Int), Builtin.Slice.slicePlaces ((n : Int) - 1) (-1) (-1))) _ _ s
  rw [e2]
  exact wpAny_pure h
theorem fm_on {α β : Type} {f g : α → Option β} : ∀ {l : List α}, (∀ x ∈ l, f x = g x) → l.filterMap f = l.filterMap g
  | [], _ => rfl
  | x :: l, h => by
    rw [List.filterMap_cons, List.filterMap_cons, h x List.mem_cons_self, fm_on fun y hy => h y (List.mem_cons_of_mem _ hy)]
theorem back_pick (xs : Array Value) : ((List.range xs.size).filterMap fun (m : Nat) => xs[(((xs.size : Nat) : Int) - 1 + (m : Int) * -1).toNat]?) = xs.toList.reverse := by
  have g : ((List.range xs.size).filterMap fun (m : Nat) => xs[(((xs.size : Nat) : Int) - 1 + (m : Int) * -1).toNat]?) = ((List.range xs.size).map fun m => xs.size - 1 - m).filterMap (fun m => xs[m]?) := by
    rw [List.filterMap_map]
    refine fm_on fun m hm => ?_
    have hm := List.mem_range.mp hm
    have e : (((xs.size : Nat) : Int) - 1 + (m : Int) * -1).toNat = xs.size - 1 - m := by omega
    show xs[(((xs.size : Nat) : Int) - 1 + (m : Int) * -1).toNat]? = xs[xs.size - 1 - m]?
    rw [e]
  rw [g, PySem.W.krv_range, List.filterMap_reverse, PySem.W.krv_all]
theorem tuple_back {t sl : Addr} {items : Array Value} {tk : Tok} {Q : Value → Shared → Prop} (ht : PyProof.Rows.IsTup s.heap t items) (hs : s.heap.IsSliceOf sl .none .none (.int (-1) tk))
    (h : Q (.ref s.heap.objs.size) { s with heap := s.heap.push { cls := .type "tuple", data := .seq items.toList.reverse.toArray } }) (hsz : items.size ≤ sizeLine) : wpAny (model prog w) A (getItem (.ref t) (.ref sl)) Q E s := by
  have hz : sizeOk (.seq items.toList.reverse.toArray) := by
    show items.toList.reverse.toArray.size ≤ sizeLine
    rw [List.size_toArray, List.length_reverse, Array.length_toList]
    exact hsz
  obtain ⟨os, hos, hcs, hds⟩ := id hs
  have hTs : s.TypeIs (.ref sl) "slice" := ⟨os, hos, hcs⟩
  unfold getItem
  try with_reducible refine wpAny_holding ?_
  first | refine wpAny_bind (wpAny_pure ?_) | skip
  refine wpAny_bind (wpAny_sequenceKey ht.typeIs (by decide) (wpAny_bind (wpAny_callSpecial?_slot (name := Str.ofString "__getitem__") ht.typeIs PyProof.Rows.slot_tuple_getitem (wpAny_call_entry PyProof.Rows.slot_tuple_getitem ht.typeIs PyProof.Rows.entry_tuple_getitem ?_ (PyProof.Rows.args_tuple_getitem _ _)))))
  show wpAny _ _ (Builtin.Tuple.tupleItemsOf (.ref t) >>= _) _ _ s
  refine wpAny_bind (PyProof.Rows.tupleItemsOf_ ht (wpAny_bind (wpAny_typeOf hTs ?_)))
  rw [if_pos (by decide)]
  refine wpAny_bind (step_back hs ?_)
  have hno : ¬ ((((items.size : Nat) : Int) - 1 == 0 && (-1 : Int) == 1 && items.size == items.size) = true) := by simp
  show wpAny _ _ (if (((items.size : Nat) : Int) - 1 == 0 && (-1 : Int) == 1 && items.size == items.size) = true then _ else _) _ _ s
  rw [if_neg hno, back_pick]
  first
    | exact wpAny_bind (m := Builtin.Tuple.tupleExact _) (wpAny_newObj_type (wpAny_pure ⟨_, rfl, wpAny_pure h⟩) hz)
    | exact wpAny_bind (m := Builtin.Tuple.tupleExact _) (wpAny_newObj_type (wpAny_bind (wpAny_pure (wpAny_pure ⟨_, rfl, wpAny_pure h⟩))) hz)
    | exact wpAny_bind (wpAny_bind (m := Builtin.Tuple.tupleExact _) (wpAny_newObj_type (wpAny_pure (wpAny_pure ⟨_, rfl, wpAny_pure h⟩)) hz))
    | exact wpAny_bind (wpAny_bind (m := Builtin.Tuple.tupleExact _) (wpAny_newObj_type (wpAny_pure ⟨_, rfl, wpAny_pure h⟩) hz))
end
section
variable {X : Cx} {S : Type} {B : Bs} {Γ : S → List Sl} {K : PySem.W.Frag} {α : Type} {R : α → Pd} {e : Expr}
def tRevT (K : PySem.W.Frag) (te : TE) : TE := fun σ H Q => te σ H fun x H1 => ∃ a xs, x = .ref a ∧ SqT K H1 a xs ∧ ∀ p, H1 p = none → Q (.ref p) (upd H1 p (.tup xs.reverse))
theorem pe_revT {te : TE} {k : Nat} {p1 p2 p3 pos : Pos} (he : PE X e te) : PE X (.Subscript e (.Slice none none (some (.UnaryOp .USub (.Constant (.int 1) k p1) p2)) p3) pos) (tRevT X.K te) := by
  refine ⟨fun pins s σ H Q I h => ?_⟩
  refine PyProof.Rows.Subscript_ (thn (he.run pins s σ H _ I h) fun v s1 ⟨x, H1, I1, r1, a, xs, ex, hx, q⟩ => ?_)
  subst ex
  cases r1
  have hst : PO X (some (.UnaryOp .USub (.Constant (.int 1) k p1) p2)) (tPart (tUn (rU fun i => .int (-i)) (tC (.int 1)))) := po_some (pe_un un_neg pe_int)
  refine PySem.wpAny_Slice (thn (po_none.run pins s1 σ H1 (fun o H2 => o = none ∧ H2 = H1) I1 ⟨rfl, rfl⟩) fun vl s2 ⟨l, H2, I2, pl, el, e2⟩ => thn (po_none.run pins s2 σ H2 (fun o H3 => o = none ∧ H3 = H2) I2 ⟨rfl, rfl⟩) fun vu s3 ⟨u, H3, I3, pu, eu, e3⟩ => ?_)
  subst el e2 eu e3
  refine thn (hst.run pins s3 σ H3 (fun o H4 => o = some (-1) ∧ H4 = H3) I3 ⟨1, rfl, -1, rfl, rfl, rfl⟩) fun vs s4 ⟨o, H4, I4, pq, eo, e4⟩ => ?_
  subst eo e4
  cases pl; cases pu
  obtain ⟨i, tk, ei⟩ : ∃ (i : Int) (tk : Tok), vs = .int (-1) tk := by cases pq; exact ⟨0, _, rfl⟩
  subst ei
  have I5 : Inv X pins σ H4 { s4 with heap := s4.heap.push { cls := .type "slice", data := .fields #[.none, .none, .int (-1) tk] } } := I4.kept (t' := s4.toks) fun b ob q => Heap.get?_push_of_some _ q
  obtain ⟨its, r, ht, hz⟩ := I5.tuple hx
  have hlen := r.length
  show wpAny (model X.prog X.w) X.A (PyProof.Rows.subscriptTail e (.Slice none none (some (.UnaryOp .USub (.Constant (.int 1) k p1) p2)) p3) (.ref a) (.ref s4.heap.objs.size)) (EP X pins σ Q) X.xe _
  refine PyProof.Rows.tail_any (ops := [.ref a, .ref s4.heap.objs.size]) ht.typeIs (PyProof.Rows.slot_tuple_getitem.lookup) ?_ (by with_unfolding_all rfl)
  refine tuple_back ht (Heap.IsSliceOf.new _ _ _ _) ?_ (by rw [List.size_toArray]; omega)
  refine ⟨.ref _, _, I5.laid (t' := s4.toks) (o := .tup xs.reverse) (fun b ob q => Heap.get?_push_of_some _ q) (Nat.le_refl _) ?_, rfl, q _ (I5.hok.fresh (Nat.le_refl _))⟩
  exact ⟨by rw [List.length_reverse]; exact hz, _, r.reverse, PyProof.Rows.IsTup.new _ _⟩
theorem te_revT {ma : S → (List α → S → Prop) → Prop} {k1 p1 p2 p3 pos} (ha : PE X e (tE B Γ (RTup K R) ma)) (hK : X.K = K := by rfl) : PE X (.Subscript e (.Slice none none (some (.UnaryOp .USub (.Constant (.int 1) k1 p1) p2)) p3) pos) (tE B Γ (RTup K R) (fun s K => ma s fun xs s1 => K xs.reverse s1)) := by
  subst hK
  refine pe_imp (pe_revT ha) fun σ H Q ⟨s, F, K', A, hm, k⟩ => ⟨s, F, _, A, hm, fun xs s1 v F1 H1 h1 A1 e1 ⟨q, vs, ev, hq, av⟩ => ⟨q, vs, ev, seqT_mono A1.sub hq, fun p np => ?_⟩⟩
  obtain ⟨A2, e2⟩ := A1.lay (o := .tup vs.reverse) np
  exact k _ s1 _ _ _ h1 A2 (e1.trans e2) ⟨p, _, rfl, SqT.of upd_same, av.reverse.mono e2⟩
end

/-! ### {e for x in xs}, e an int -/
section
variable {X : Cx}
/-- the new set D, its members S, n of them -/
abbrev SetGo (w : World) (D : Addr) (S : Int → Bool) (n : Nat) (c : Int) : HO := SetO w D (fun j => S j || decide (j = c)) (if S c = true then n else n + 1)
def tScI (w : World) (wi : TI) (g : TG) (te : TE) (vs : List Nat) : TE := fun σ H Q => wi σ H fun J H1 => ∀ D, H1 D = none →
  ∃ W : Nat → Nat → Hp → Prop, (∃ m, W 0 m (upd H1 D (SetO w D (fun _ => false) 0))) ∧ ∀ i m H, W i m H → (J.stop i H ∧ Q (.ref D) H) ∨
    (J.go i H ∧ ∃ Nx : Hp → Prop, (∀ H', Nx H' → ∃ m', m' < m ∧ W (i + 1) m' H') ∧ ∀ x H', J.yld i H x H' → g x (wipe σ vs) H' fun σ2 H2 => wipe σ2 vs = wipe σ vs ∧
      te σ2 H2 fun y H4 => ∃ (c : Int) (S : Int → Bool) (n : Nat), y = .int c ∧ H4 D = some (SetO w D S n) ∧ n + 1 < scanBound ∧ Nx (upd H4 D (SetGo w D S n c)))
theorem addI_ok {pins : List (Addr × Obj)} {σ : L2.St} {H : Hp} {s : Shared} {E : Value → Shared → Prop} {D : Addr} {S : Int → Bool} {n : Nat} {c : Int} {tk : Tok} {Q : Value → Shared → Prop} (I : Inv X pins σ H s) (hD : H D = some (SetO X.w D S n)) (room : n + 1 < scanBound)
    (h : ∀ s', Inv X pins σ (upd H D (SetGo X.w D S n c)) s' → Q .none s') : wpAny (model X.prog X.w) X.A (call (.builtin "set.add") [.ref D, .int c tk]) Q E s := by
  refine setR_add (setO_get I hD) room fun h' sb new => ?_
  refine h _ (I.write (e := D) (t' := s.toks + 1) (by rw [hD]; trivial) (.inl rfl) (fun b u hb hu => (sb.2 b hb).trans hu) ?_ (setO_new new))
  obtain ⟨o, _, _, _, ho, _⟩ := id new
  exact ⟨o, ho⟩
theorem pe_scI {elt tg iter : Expr} {scope : Scope} {own : List (Str × Nat)} {pos : Pos} {wi : TI} {g : TG} {te : TE} (hc : X.calm = true) (hN : X.N.Nodup) (hi : PI X tg iter wi) (ok : BlkOk X.N X.env.scope scope own)
    (hg : ∀ (s : Shared) (H : Hp) (C : Addr) (cl : List (Str × Addr)) (fp : List Addr), PG (X.blk s H scope (compEnvC scope cl C X.env) fp) tg g)
    (he : ∀ (s : Shared) (H : Hp) (C : Addr) (cl : List (Str × Addr)) (fp : List Addr), PE (X.blk s H scope (compEnvC scope cl C X.env) fp) elt te) (hs : ∀ x, foldedSetIterable iter X.env x = pure x := by intro _; rfl) :
    PE X (.SetComp elt [⟨tg, iter, [], 0⟩] scope pos) (tScI X.w wi g te (own.map (·.2))) := by
  refine ⟨fun pins s σ H Q I h => ?_⟩
  rw [PpSet.eval_SetComp]
  have hfree : ∀ y ∈ scope.names, y.2 = .free → ∃ c, X.env.cells.lookup y.1 = some c := fun y hy e => (ok.free y hy e).elim (fun k => I.ok.has _ (.inl k)) fun k => I.ok.has _ (.inr k)
  refine PySem.wpAny_comprehension_free (use := none) rfl hs (closure_ok hfree) ok.kind (fun y hy e => by rw [ok.uniq y hy, e]) (thn (hi.run pins s σ H _ I h) fun xv s1 hx => thn hx fun itv s2 ⟨it, fp, tn, J, H2, e, I2, T, st2, f2, q⟩ => ?_)
  subst e
  refine PpSet.newSet_ok (newEnv_comp ?_)
  generalize hD : s2.heap.objs.size = D
  have hDn : H2 D = none := I2.hok.fresh (Nat.le_of_eq hD)
  obtain ⟨W, ⟨m0, w0⟩, turn⟩ := q D hDn
  generalize hs3 : ({ s2 with heap := s2.heap.push { cls := .type "set", dict := none, data := .set #[] 0 (.fresh 0 0 (!X.w.params.followText "set-order")) } } : Shared) = s3
  have h3 : s3.heap = s2.heap.push { cls := .type "set", dict := none, data := .set #[] 0 (.fresh 0 0 (!X.w.params.followText "set-order")) } := by rw [← hs3]
  have I3 : Inv X pins σ (upd H2 D (SetO X.w D (fun _ => false) 0)) s3 := by
    rw [← hs3]
    refine I2.laid (t' := s2.toks) (fun b o e => Heap.get?_push_of_some _ e) (Nat.le_of_eq hD) ?_
    rw [← hD]
    exact setO_new (setR_fresh X.w)
  have lt : ∀ b ∈ fp, b < s2.heap.objs.size := fun b hb => (T.obj _ _ st2 b hb).elim fun o z => Heap.lt_size z.1
  have f3 : ∀ b ∈ fp, FpOk X pins (upd H2 D (SetO X.w D (fun _ => false) 0)) b ∧ b < s3.heap.objs.size := fun b hb =>
    ⟨⟨(upd_ne (by rw [← hD]; exact Nat.ne_of_lt (lt b hb))).trans (f2 b hb).1, (f2 b hb).2⟩, by rw [h3, Heap.size_push]; exact Nat.lt_succ_of_lt (lt b hb)⟩
  have st3 : tn 0 s3.heap := T.keep _ _ _ st2 fun b _ o e => by rw [h3]; exact Heap.get?_push_of_some _ e
  have I4 := block_start I3 ok hN f3
  generalize hcl : cellsFrom (s3.heap.objs.size + 1) scope.names (cloFrom X.env.cells scope.names []) = cl at I4
  have pg := hg s3 (upd H2 D (SetO X.w D (fun _ => false) 0)) s3.heap.objs.size cl fp
  have pe := he s3 (upd H2 D (SetO X.w D (fun _ => false) 0)) s3.heap.objs.size cl fp
  have nfp : ∀ b ∈ fp, (upd H2 D (SetO X.w D (fun _ => false) 0)) b = none := fun b hb => (f3 b hb).1.1
  show codeAny _ _ (.compStart (.SetComp elt [⟨tg, iter, [], 0⟩] scope pos) 0 (.ref it) (.ref D) (compEnvC scope cl s3.heap.objs.size X.env)) (compPost (model X.prog X.w) X.A X.xe none (EP X pins σ Q) (.ref D) s3.heap.objs.size) { s3 with heap := pushCells (s3.heap.push { cls := .type "dict", data := .dict #[] }) scope.names }
  generalize hce : compEnvC scope cl s3.heap.objs.size X.env = ce at I4 pg pe ⊢
  have cL : ce.locals = s3.heap.objs.size := by subst hce; rfl
  generalize hH3 : upd H2 D (SetO X.w D (fun _ => false) 0) = H3 at I3 I4 pg pe w0 nfp f3
  generalize hs4 : ({ s3 with heap := pushCells (s3.heap.push { cls := .type "dict", data := .dict #[] }) scope.names } : Shared) = s4 at I4 ⊢
  have st4 : tn 0 s4.heap := T.keep _ _ _ st3 fun b _ o e => by rw [← hs4]; exact pushCells_keeps _ _ _ _ (Heap.get?_push_of_some _ e)
  have stat : ∀ {σ' : L2.St} {H' : Hp} {s' : Shared}, Inv (X.blk s3 H3 scope ce fp) [] σ' H' s' → (∀ b ∈ fp, H' b = none) → ∀ b ∈ fp, FpOk (X.blk s3 H3 scope ce fp) [] H' b := fun {σ' H' s'} I' hn b hb =>
    ⟨hn b hb, (I'.ok.exf b hb).1, I'.ok.exfs b hb, .inl hb, fun x c e => (I'.ok.exf b hb).2 x c e, fun p hp => by cases (show p ∈ ([] : List (Addr × Obj)) from hp)⟩
  refine PpSet.codeAny_compStart_set ?loop (T.self X.A 0 _ _ _ st4 ?loop)
  refine PpSet.compLoopS_any (fun n s' => ∃ i H', Inv (X.blk s3 H3 scope ce fp) [] (wipe σ (own.map (·.2))) H' s' ∧ tn i s'.heap ∧ (∀ b ∈ fp, H' b = none) ∧ W i n H') ?_ m0 ⟨0, H3, I4, st4, nfp, w0⟩
  rintro n s5 ⟨i, H5, I5, st5, n5, w5⟩
  rcases turn i n H5 w5 with ⟨stop, qq⟩ | ⟨go, Nx, hNx, step⟩
  · refine thnF (T.done (X.blk s3 H3 scope ce fp) rfl rfl rfl hc i [] s5 _ H5 (fun _ _ => False) I5 (stat I5 n5) st5 stop) fun r s6 ⟨hr, I6⟩ => ?_
    subst hr
    have I7 : Inv X pins σ H5 s6 := I3.call' (ch := fp) I6.os I6.base I6.hok I6.bare fun b hb => ⟨(f3 b hb).1.2.2.2.1, (f3 b hb).1.2.1, (f3 b hb).1.2.2.2.2.1, (f3 b hb).1.2.2.2.2.2⟩
    have nC : H5 s3.heap.objs.size = none := cL ▸ (show H5 ce.locals = none from I6.free)
    obtain ⟨m, hn, _⟩ := I6.loc
    have hn : s6.heap.Ns s3.heap.objs.size m := cL ▸ (show s6.heap.Ns ce.locals m from hn)
    obtain ⟨g0, g1, g2, g3, g4, g5⟩ := I3.fpOk (H' := H5) (Nat.le_refl _) nC
    exact ⟨m, hn, fun h'' sb => ⟨.ref D, H5, I7.turned (t' := s6.toks) (fun b o hb e => (sb.2 b hb).trans e) g0 g1 g3 g4 g5, rfl, qq⟩⟩
  · refine thnF (T.item (X.blk s3 H3 scope ce fp) rfl rfl rfl hc i [] s5 _ H5 (fun _ _ => False) I5 (stat I5 n5) st5 go) fun r s6 ⟨u, hr, h6⟩ => ?_
    subst hr
    refine thnF h6 fun _ s7 ⟨x, H7, I7, r7, y7, st7, n7⟩ => ?_
    refine thnF (pg.run _ s7 _ H7 x u _ (I7.pinned (stat I7 n7) (T.obj _ _ st7)) r7 (step x H7 y7)) fun _ s8 ⟨σ8, H8, I8, hw8, q8⟩ => ?_
    refine thnF ((pts_nil (X := X.blk s3 H3 scope ce fp)).run _ s8 σ8 H8 (fun b H' => b = true ∧ H' = H8) I8 ⟨rfl, rfl⟩) fun b s9 ⟨H9, I9, eb, e9⟩ => ?_
    subst eb e9
    simp only [if_true]
    refine thnF (pe.run _ s9 σ8 H9 _ I9 q8) fun z s10 ⟨yv, H10, I10, r10, c, S0, n0, ey, hD10, hz10, nx⟩ => ?_
    subst ey
    obtain ⟨tk, ez⟩ := (show ∃ tk, z = Value.int c tk from r10)
    subst ez
    refine addI_ok (X := X.blk s3 H3 scope ce fp) I10 hD10 hz10 fun s11 I11 => ?_
    obtain ⟨m', hm, w'⟩ := hNx _ nx
    have pin' : ∀ b ∈ fp, ∀ o, s7.heap.get? b = some o → s11.heap.get? b = some o ∧ (upd H10 D (SetGo X.w D S0 n0 c)) b = none := fun b hb o e =>
      let zz := I11.pin (b, o) (List.mem_append_right _ (List.mem_append_right _ (mem_pinsAt hb e)))
      ⟨zz.1, zz.2.1⟩
    refine ⟨m', hm, i + 1, _, (I11.unpinned (pins := [])).weak (by rw [← hw8, wipe_length]) (fun j v e => ?_), T.keep _ _ _ st7 fun b hb o e => (pin' b hb o e).1, fun b hb => ?_, w'⟩
    · rw [← hw8] at e
      exact (wipe_some e).1
    · obtain ⟨o, e, _⟩ := T.obj _ _ st7 b hb
      exact (pin' b hb o e).2
end
end TL
namespace TL
open PySem L2

/-! ### sets of ints, sorted -/
/-- one int into a rising list -/
def insU (c : Int) : List Int → List Int
  | [] => [c]
  | x :: xs => if c < x then c :: x :: xs else if c = x then x :: xs else x :: insU c xs
def sortU (ys : List Int) : List Int := ys.foldl (fun l c => insU c l) []
theorem insU_mem (c : Int) : ∀ (l : List Int) (k : Int), k ∈ insU c l ↔ k = c ∨ k ∈ l
  | [], k => by simp [insU]
  | x :: xs, k => by
    unfold insU
    split
    · simp [List.mem_cons]
    · split
      · rename_i h; subst h; simp [List.mem_cons]
      · rw [List.mem_cons, insU_mem c xs k, List.mem_cons]
        constructor
        · rintro (h | h | h)
          · exact .inr (.inl h)
          · exact .inl h
          · exact .inr (.inr h)
        · rintro (h | h | h)
          · exact .inr (.inl h)
          · exact .inl h
          · exact .inr (.inr h)
theorem insU_up (c : Int) : ∀ {l : List Int}, l.Pairwise (· < ·) → (insU c l).Pairwise (· < ·)
  | [], _ => by simp [insU]
  | x :: xs, h => by
    obtain ⟨h1, h2⟩ := List.pairwise_cons.mp h
    unfold insU
    split
    · rename_i hc
      refine List.pairwise_cons.mpr ⟨fun y hy => ?_, h⟩
      rcases List.mem_cons.mp hy with e | e
      · subst e; exact hc
      · exact Int.lt_trans hc (h1 y e)
    · split
      · exact h
      · rename_i hc hn
        refine List.pairwise_cons.mpr ⟨fun y hy => ?_, insU_up c h2⟩
        rcases (insU_mem c xs y).mp hy with e | e
        · subst e; omega
        · exact h1 y e
theorem insU_len (c : Int) : ∀ {l : List Int}, l.Pairwise (· < ·) → (insU c l).length = if c ∈ l then l.length else l.length + 1
  | [], _ => by simp [insU]
  | x :: xs, h => by
    obtain ⟨h1, h2⟩ := List.pairwise_cons.mp h
    unfold insU
    split
    · rename_i hc
      rw [if_neg]
      · rfl
      · intro hm
        rcases List.mem_cons.mp hm with e | e
        · omega
        · have := h1 c e; omega
    · split
      · rename_i hc hn
        subst hn
        rw [if_pos List.mem_cons_self]
      · rename_i hc hn
        rw [List.length_cons, insU_len c h2]
        by_cases hm : c ∈ xs
        · rw [if_pos hm, if_pos (List.mem_cons_of_mem _ hm), List.length_cons]
        · rw [if_neg hm, if_neg (by
            intro z
            rcases List.mem_cons.mp z with e | e
            · exact hn e
            · exact hm e), List.length_cons]
theorem sortU_snoc (ys : List Int) (c : Int) : sortU (ys ++ [c]) = insU c (sortU ys) := by
  unfold sortU
  rw [List.foldl_append]
  rfl
theorem foldU_up : ∀ (ys l : List Int), l.Pairwise (· < ·) → (ys.foldl (fun l c => insU c l) l).Pairwise (· < ·)
  | [], _, h => h
  | y :: ys, l, h => foldU_up ys _ (insU_up y h)
theorem sortU_up (ys : List Int) : (sortU ys).Pairwise (· < ·) := foldU_up ys [] List.Pairwise.nil
theorem foldU_mem : ∀ (ys l : List Int) (k : Int), k ∈ ys.foldl (fun l c => insU c l) l ↔ k ∈ ys ∨ k ∈ l
  | [], l, k => by simp
  | y :: ys, l, k => by
    rw [List.foldl_cons, foldU_mem ys, insU_mem, List.mem_cons]
    constructor
    · rintro (h | h | h)
      · exact .inl (.inr h)
      · exact .inl (.inl h)
      · exact .inr h
    · rintro ((h | h) | h)
      · exact .inr (.inl h)
      · exact .inl h
      · exact .inr (.inr h)
theorem sortU_mem (ys : List Int) (k : Int) : k ∈ sortU ys ↔ k ∈ ys := by
  unfold sortU
  rw [foldU_mem]
  simp
theorem up_unique : ∀ {l l' : List Int}, l.Pairwise (· < ·) → l'.Pairwise (· < ·) → (∀ k, k ∈ l ↔ k ∈ l') → l = l'
  | [], [], _, _, _ => rfl
  | [], y :: _, _, _, h => by have := (h y).mpr List.mem_cons_self; simp at this
  | x :: _, [], _, _, h => by have := (h x).mp List.mem_cons_self; simp at this
  | x :: xs, y :: ys, h1, h2, h => by
    obtain ⟨a1, a2⟩ := List.pairwise_cons.mp h1
    obtain ⟨b1, b2⟩ := List.pairwise_cons.mp h2
    have e : x = y := by
      rcases List.mem_cons.mp ((h x).mp List.mem_cons_self) with z | z
      · exact z
      · rcases List.mem_cons.mp ((h y).mpr List.mem_cons_self) with z' | z'
        · exact z'.symm
        · have := b1 x z; have := a1 y z'; omega
    subst e
    congr 1
    refine up_unique a2 b2 fun k => ?_
    constructor
    · intro hk
      rcases List.mem_cons.mp ((h k).mp (List.mem_cons_of_mem _ hk)) with z | z
      · have := a1 k hk; omega
      · exact z
    · intro hk
      rcases List.mem_cons.mp ((h k).mpr (List.mem_cons_of_mem _ hk)) with z | z
      · have := b1 k hk; omega
      · exact z
def RSet (w : World) (ys : List Int) : Pd := ⟨fun v F => ∃ a S, v = .ref a ∧ F a = some (SetO w a S (sortU ys).length) ∧ ∀ k, S k = true ↔ k ∈ ys, fun _ _ _ e ⟨a, S, h1, h2, h3⟩ => ⟨a, S, h1, e _ _ h2, h3⟩⟩
section
variable {X : Cx} {S S' : Type} {B : Bs} {Γ : S → List Sl} {K : PySem.W.Frag} {α β : Type} {R Ra : α → Pd} {Rb : β → Pd} {e tg it elt : Expr} {pos p : Pos} {x : Str} {scope : Scope} {own : List (Str × Nat)} {g : TG} {js : List Nat} {up : List Sl → α → List Sl}
theorem sc_read {w : World} {vs : List Nat} (tgt : Tg g R js up) {Γp : S → List Sl} {mi : S → (List α → S → Prop) → Prop} {me : S → α → (Int → Prop) → Prop} (hp : ∀ s, Pur (Γ s) (Γp s)) (hj : ∀ j ∈ js, j ∈ vs) (hv : ∀ s, ∀ i ∈ vs, (Γp s)[i]? = some .any ∨ (Γp s)[i]? = none) {σ : L2.St} {H : Hp} {Q : VK}
    (q : tE B Γ (RSet w) (fun s K => mi s fun xs s1 => xs.length ≤ 4000 ∧ mMap xs (me s1) fun ys => K ys s1) σ H Q) :
    tScI w (tI B Γ R mi) g (fun σ H Q => ∃ i : S × α × Bs, tE i.2.2 (fun _ : Unit => up (Γp i.1) i.2.1) RInt (fun _ K => me i.1 i.2.1 fun y => K y ()) σ H Q) vs σ H Q := by
  obtain ⟨s, F, K', A, hm, k⟩ := q
  refine ⟨s, F, _, A, hm, fun xs s1 J F1 H1 ⟨hz, h1⟩ A1 e1 src => ?_⟩
  intro D hD
  have bD := A1.beside hD
  refine ⟨fun i mm H' => ∃ Fi Sm ys, mm = xs.length - i ∧ i ≤ xs.length ∧ Same F1 Fi ∧ At B (Γ s1) σ Fi H' ∧ H' D = some (SetO w D Sm (sortU ys).length) ∧ Fi D = none ∧ (∀ k, Sm k = true ↔ k ∈ ys) ∧ ys.length = i ∧ mMap (xs.drop i) (me s1) fun zs => K' (ys ++ zs) s1, ?_, ?_⟩
  · refine ⟨xs.length, F1, fun _ => false, [], by simp, Nat.zero_le _, Same.refl _, A1.layH hD, upd_same, bD.1, by simp, rfl, ?_⟩
    simpa using h1
  · rintro i mm H' ⟨Fi, Sm, ys, rfl, hi, eF, Ai, hDi, fDi, hS, hyl, hk⟩
    obtain ⟨s1', s2', s3'⟩ := src Fi H' eF Ai.sub
    by_cases hlt : i < xs.length
    · refine .inr ⟨s2' i hlt, fun H'' => ∃ Fi Sm ys, i + 1 ≤ xs.length ∧ Same F1 Fi ∧ At B (Γ s1) σ Fi H'' ∧ H'' D = some (SetO w D Sm (sortU ys).length) ∧ Fi D = none ∧ (∀ k, Sm k = true ↔ k ∈ ys) ∧ ys.length = i + 1 ∧ mMap (xs.drop (i + 1)) (me s1) fun zs => K' (ys ++ zs) s1, fun H'' ⟨F3, S3, y3, q1, q2, q3, q4, q5, q6, q7, q8⟩ => ⟨xs.length - (i + 1), by omega, F3, S3, y3, rfl, q1, q2, q3, q4, q5, q6, q7, q8⟩, fun v H2 hy => ?_⟩
      obtain ⟨F2, f1, f2, f3, f4, f5⟩ := s3' i xs[i] v H2 (List.getElem?_eq_getElem hlt) hy
      have A2 := Ai.grow f1 f2 f3 f4
      have hD2 := f2 _ _ hDi
      have fD2 : F2 D = none := f4.no fDi hDi
      rw [List.drop_eq_getElem_cons hlt] at hk
      obtain ⟨pf, po⟩ := fits_pure (F' := F2) (H' := H2) (σ' := wipe σ vs) vs (hp s1) A2.fit (fun i hi => wipe_out hi) (wipe_length σ vs) (hv s1)
      have A3 : At ⟨F2, H2, fun _ => False, []⟩ (Γp s1) (wipe σ vs) F2 H2 := ⟨A2.sub, Same.refl _, fun a o e _ => e, fun a o e => .inl e, pf, by rw [po]; exact List.Pairwise.nil, fun a hb => hb.elim, fun _ z => nomatch z⟩
      refine tgt.run A3 f5 fun σ' A4 hw => ?_
      refine ⟨by rw [hw vs hj, wipe_wipe fun _ z => z], ⟨s1, xs[i], ⟨F2, H2, fun _ => False, []⟩⟩, (), F2, fun y (_ : Unit) => mMap (xs.drop (i + 1)) (me s1) fun zs => K' (ys ++ (y :: zs)) s1, A4, hk, fun y _ u F6 H6 h6 A6 e6 r6 => ?_⟩
      have sH : Same H2 H6 := fun a o e => A6.kept a o e id
      have nw : Nw F2 H2 F6 := fun a o e => A6.new a o e
      have B6 := A2.grow A6.ext sH A6.sub nw
      have hD6 := sH _ _ hD2
      have r6 : u = .int y := r6
      subst r6
      have hl : (sortU ys).length ≤ ys.length := by
        have go : ∀ zs l : List Int, (zs.foldl (fun l c => insU c l) l).length ≤ zs.length + l.length := by
          intro zs
          induction zs with
          | nil => intro l; simp
          | cons z zs ih =>
            intro l
            have h2 : (insU z l).length ≤ l.length + 1 := by
              induction l with
              | nil => simp [insU]
              | cons q l ihl => unfold insU; split <;> (try split) <;> simp at * <;> omega
            have := ih (insU z l)
            rw [List.foldl_cons, List.length_cons]
            omega
        have := go ys []
        simpa [sortU] using this
      refine ⟨y, Sm, _, rfl, hD6, by have : scanBound = 4096 := rfl; omega, F6, fun j => Sm j || decide (j = y), ys ++ [y], hlt, (eF.trans f1).trans e6, B6.poke hD6 (nw.no fD2 hD2) bD.2.1 bD.2.2, ?_, nw.no fD2 hD2, fun k => ?_, by rw [List.length_append, List.length_singleton, hyl], by simpa using h6⟩
      · rw [upd_same, sortU_snoc, insU_len y (sortU_up ys)]
        show some (SetO w D (fun j => Sm j || decide (j = y)) (if Sm y = true then (sortU ys).length else (sortU ys).length + 1)) = _
        by_cases hm : y ∈ sortU ys
        · have hS' : Sm y = true := (hS y).mpr ((sortU_mem ys y).mp hm)
          rw [if_pos hm, if_pos hS']
        · have hS' : ¬ Sm y = true := fun z => hm ((sortU_mem ys y).mpr ((hS y).mp z))
          rw [if_neg hm, if_neg hS']
      · rw [Bool.or_eq_true, decide_eq_true_eq, hS k, List.mem_append, List.mem_singleton]
    · have e : i = xs.length := by omega
      subst e
      refine .inl ⟨s1' _ (Nat.le_refl _), ?_⟩
      rw [List.drop_length] at hk
      have hk : K' (ys ++ []) s1 := hk
      rw [List.append_nil] at hk
      obtain ⟨A5, e5⟩ := Ai.know fDi hDi bD.2.1 bD.2.2
      exact k ys s1 _ _ H' hk A5 ((e1.trans eF).trans e5) ⟨D, Sm, rfl, upd_same, hS⟩
theorem te_setI {mi : S → (List α → S → Prop) → Prop} {me : S → α → Unit → (Int → Unit → Prop) → Prop} (nd : X.N.Nodup) (hi : PI X tg it (tI B Γ R mi)) (ok : BlkOk X.N X.env.scope scope own)
    (hg : ∀ (s : Shared) (H : Hp) (C : Addr) (cl : List (Str × Addr)) (fp : List Addr), PG (X.blk s H scope (compEnvC scope cl C X.env) fp) tg g) (tgt : Tg g R js up)
    (he : ∀ (s1 : S) (x : α) (B' : Bs) (s : Shared) (H : Hp) (C : Addr) (cl : List (Str × Addr)) (fp : List Addr), PE (X.blk s H scope (compEnvC scope cl C X.env) fp) elt (tE B' (fun _ : Unit => up (pureFrom (own.map (·.2)) 0 (Γ s1)) x) RInt (me s1 x)))
    (hj : ∀ j ∈ js, j ∈ own.map (·.2) := by decide) (hc : X.calm = true := by rfl) (hs : ∀ x, foldedSetIterable it X.env x = pure x := by intro _; rfl) :
    PE X (.SetComp elt [⟨tg, it, [], 0⟩] scope pos) (tE B Γ (RSet X.w) (fun s K => mi s fun xs s1 => xs.length ≤ 4000 ∧ mMap xs (fun x K => me s1 x () fun y _ => K y) fun ys => K ys s1)) :=
  pe_imp (pe_scI hc nd hi ok hg (fun s H C cl fp => pe_ex fun i : S × α × Bs => he i.1 i.2.1 i.2.2 s H C cl fp) hs)
    fun σ H Q q => sc_read (me := fun s1 x K => me s1 x () fun y _ => K y) tgt (fun s => pur_pure _ 0 _) hj (fun s i hi => pure_any _ 0 _ i (by simpa using hi)) q
theorem tn_sortedSet {ma : S → (List Int → S → Prop) → Prop} (P : BP X "sorted" (.builtin "sorted")) (ha : PE X e (tE B Γ (RSet X.w) ma)) (hc : X.calm = true := by rfl) (hs : starEach [e] X.env = (false, eval e X.env) :: starEach [] X.env := by rfl) (hpl : (backTo pos (starEach [] X.env)).any (·.1) = false := by rfl) :
    PE X (.Call (.Name "sorted" p) [e] [] pos) (tN B Γ RInt (fun s K => ma s fun y s1 => (sortU y).length < 64 ∧ K (sortU y) s1)) :=
  pe_imp (pe_bf P (cr_sortedSet hc) (pa_cons ha pa_nil hs) hs hpl) fun σ H Q ⟨s, F, K', A, hm, k⟩ => ⟨s, F, _, A, hm, fun y s1 v F1 H1 ⟨hz, h1⟩ A1 e1 ⟨q, Sm, ev, hq, hS⟩ => ⟨q, Sm, _, by rw [ev], A1.sub _ _ hq, hz, fun ns p hup hns hl np => by
    have e : ns = sortU y := up_unique hup (sortU_up y) fun k => by rw [hns k, hS k, sortU_mem]
    subst e
    have fr := A1.fresh np
    exact k _ s1 p _ F1 _ h1 (A1.layH np) e1 upd_same fr.1 fr.2 (A1.notOwn np) (AllR.ints.mpr rfl)⟩⟩
end

/-! ### instances by their attributes -/
def FOk : List (Str × Pd) → List (Str × V) → Hp → Prop
  | [], [], _ => True
  | (n, P) :: fl, (n', v) :: fs, F => n' = n ∧ P.p v F ∧ FOk fl fs F
  | _, _, _ => False
theorem FOk.mono {F F' : Hp} (e : Same F F') : ∀ {fl : List (Str × Pd)} {fs : List (Str × V)}, FOk fl fs F → FOk fl fs F'
  | [], [], _ => trivial
  | (_, P) :: _, (_, _) :: _, ⟨h1, h2, h3⟩ => ⟨h1, P.mono _ _ _ e h2, FOk.mono e h3⟩
theorem FOk.some {F : Hp} {n : Str} {P : Pd} : ∀ {fl : List (Str × Pd)} {fs : List (Str × V)}, FOk fl fs F → fl.lookup n = some P → ∃ v, fs.lookup n = some v ∧ P.p v F
  | [], [], _, h => by simp at h
  | (m, P') :: fl, (m', v) :: fs, ⟨h1, h2, h3⟩, h => by
    subst h1
    rw [List.lookup_cons] at h ⊢
    cases q : n == m' with
    | true => rw [q] at h; cases h; exact ⟨v, rfl, h2⟩
    | false => rw [q] at h; exact FOk.some h3 h
theorem FOk.none {F : Hp} {n : Str} : ∀ {fl : List (Str × Pd)} {fs : List (Str × V)}, FOk fl fs F → fl.lookup n = none → fs.lookup n = none
  | [], [], _, _ => rfl
  | (m, P') :: fl, (m', v) :: fs, ⟨h1, h2, h3⟩, h => by
    subst h1
    rw [List.lookup_cons] at h ⊢
    cases q : n == m' with
    | true => rw [q] at h; cases h
    | false => rw [q] at h; exact FOk.none h3 h
theorem FOk.len {F : Hp} : ∀ {fl : List (Str × Pd)} {fs : List (Str × V)}, FOk fl fs F → fs.length = fl.length
  | [], [], _ => rfl
  | _ :: _, _ :: _, ⟨_, _, h⟩ => by simp [FOk.len h]
theorem FOk.put {F : Hp} {n : Str} {P : Pd} {v : V} (hv : P.p v F) : ∀ {fl : List (Str × Pd)} {fs : List (Str × V)}, FOk fl fs F → fl.lookup n = Option.none → FOk (fl ++ [(n, P)]) (putF n v fs) F
  | [], [], _, _ => ⟨rfl, hv, trivial⟩
  | (m, P') :: fl, (m', u) :: fs, ⟨h1, h2, h3⟩, h => by
    subst h1
    rw [List.lookup_cons] at h
    cases q : n == m' with
    | true => rw [q] at h; cases h
    | false =>
      rw [q] at h
      have hn : ¬ m' = n := fun z => by subst z; simp at q
      show FOk ((m', P') :: (fl ++ [(n, P)])) (if m' = n then (m', v) :: fs else (m', u) :: putF n v fs) F
      rw [if_neg hn]
      exact ⟨rfl, h2, FOk.put hv h3 h⟩
def RIns (C : Addr) (fl : List (Str × Pd)) : Pd := ⟨fun v F => ∃ a dx fs, v = .ref a ∧ F a = some (.ins C dx fs) ∧ FOk fl fs F, fun _ _ _ e ⟨a, dx, fs, h1, h2, h3⟩ => ⟨a, dx, fs, h1, e _ _ h2, h3.mono e⟩⟩
def OIns (C : Addr) (fl : List (Str × Pd)) : Od := ⟨fun o F => ∃ dx fs, o = .ins C dx fs ∧ FOk fl fs F, fun _ _ _ e ⟨dx, fs, h1, h2⟩ => ⟨dx, fs, h1, h2.mono e⟩⟩
section
variable {α β : Type} {C : Addr} {fl : α → List (Str × Pd)} {mn : Str}
theorem insR (h : ∀ x, (fl x).lookup mn = none) : InsR (fun x => RIns C (fl x)) C mn := fun x v F ⟨a, dx, fs, h1, h2, h3⟩ => ⟨a, dx, fs, h1, h2, h3.none (h x)⟩
theorem isI : IsI (fun x => RIns C (fl x)) C := fun x v F ⟨a, dx, fs, h1, h2, h3⟩ => ⟨a, dx, fs, h1, h2⟩
theorem fldR {Rb : β → Pd} {get : α → β} (h : ∀ x, (fl x).lookup mn = some (Rb (get x))) : FldR (fun x => RIns C (fl x)) C mn Rb get := fun x v F ⟨a, dx, fs, h1, h2, h3⟩ => by
  obtain ⟨w, h4, h5⟩ := h3.some (h x)
  exact ⟨a, dx, fs, w, h1, h2, h4, h5⟩
end
/-- the end of an __init__ -/
def xI {α : Type} (B : Bs) (C a : Addr) (fl : α → List (Str × Pd)) (Kf : α → Prop) : Xt := { nx := fun _ F H => ∃ r o, Kf r ∧ Fin B F H ∧ F a = none ∧ H a = some o ∧ (OIns C (fl r)).p o F, rt := fun _ _ _ => False }
section
variable {X : Cx} {S S' T : Type} {B : Bs} {Γ : S → List Sl} {K : PySem.W.Frag} {α β : Type} {R : α → Pd} {e : Expr} {pos p p' : Pos} {xn fn : Str} {P : Xt} {rest : List Stmt} {C a : Addr} {m : S → (α → S → Prop) → Prop}
/-- self.f = e in an __init__ -/
theorem ts_self {mr : α → S → Prop} {i : Nat} {fl : S → List (Str × Pd)} (he : PE X e (tE B Γ R m)) (c : Cls X.K C) (hn : NoAttr X.K C fn) (hr : ∀ x, PSs X rest (tS B (fun s => (Γ s).set i (.bo a (OIns C (fl s ++ [(fn, R x)])))) P (mr x)))
    (hG : ∀ s, (Γ s)[i]? = some (.bo a (OIns C (fl s))) := by intro _; rfl) (hl : ∀ s, (fl s).lookup fn = none ∧ (fl s).length < 1000 := by intro _; exact ⟨by decide +kernel, by show _ < 1000; decide⟩) (hN : X.N[i]? = some xn := by rfl) (hv : Vis X.env.scope xn := by first | exact Or.inl rfl | exact Or.inr (Or.inl rfl) | exact Or.inr (Or.inr rfl)) (hd : (xn == ("__debug__" : Str)) = false := by decide) (hcd : (xn == ("__classdict__" : Str)) = false := by decide)
    (hs : swapsWith e (some (.Attribute (.Name xn p) fn p')) pos.line X.env = pure false := by rfl) :
    PSs X (.Assign [.Attribute (.Name xn p) fn p'] e pos :: rest) (tS B Γ P (fun s => m s fun x s1 => mr x s1)) :=
  pss_imp (pss_cons (ps_fld (pe_var hN hv hd hcd) he hs) (pss_ex hr)) fun D σ H ⟨s, F, A, hm, L⟩ => ⟨s, F, _, A, hm, fun x s1 v F1 H1 h1 A1 e1 r1 => by
    obtain ⟨o, h2, h3, h4, ⟨dx, fs, ho, hf⟩, h5⟩ := A1.bo (hG s1)
    subst ho
    obtain ⟨l1, l2⟩ := hl s1
    refine ⟨_, h2, a, C, dx, fs, rfl, h4, c, hn, by rw [hf.len]; exact l2, x, s1, F1, A1.writeB (hG s1) ⟨dx, _, rfl, hf.put r1 l1⟩, h1, L⟩⟩
/-- self.f in an __init__ -/
theorem te_self {i : Nat} {fl : S → List (Str × Pd)} {f : S → α} (c : Cls X.K C) (hn : NoAttr X.K C fn) (hG : ∀ s, (Γ s)[i]? = some (.bo a (OIns C (fl s)))) (hl : ∀ s, (fl s).lookup fn = some (R (f s))) (hN : X.N[i]? = some xn := by rfl) (hv : Vis X.env.scope xn := by first | exact Or.inl rfl | exact Or.inr (Or.inl rfl) | exact Or.inr (Or.inr rfl)) (hd : (xn == ("__debug__" : Str)) = false := by decide) (hcd : (xn == ("__classdict__" : Str)) = false := by decide)
    (hb : attributeBase (.Name xn p) fn X.env (eval (.Name xn p) X.env) = eval (.Name xn p) X.env := by rfl) : PE X (.Attribute (.Name xn p) fn pos) (tE B Γ R (fun s K => K (f s) s)) :=
  pe_imp (pe_fld (pe_var hN hv hd hcd) hb) fun σ H Q ⟨s, F, K', A, hm, k⟩ => by
    obtain ⟨o, h2, h3, h4, ⟨dx, fs, ho, hf⟩, h5⟩ := A.bo (hG s)
    subst ho
    obtain ⟨w, g1, g2⟩ := hf.some (hl s)
    exact ⟨_, h2, a, C, dx, fs, w, rfl, h4, c, hn, g1, k _ s w F H hm A (Same.refl F) g2⟩
theorem ts_selfEnd {Kf : β → Prop} {i : Nat} {fl : S → List (Str × Pd)} {flr : β → List (Str × Pd)} (r : S → β) (hG : ∀ s, (Γ s)[i]? = some (.bo a (OIns C (fl s)))) (hf : ∀ s, fl s = flr (r s)) (hP : P.nx = (xI B C a flr Kf).nx := by rfl) : PSs X [] (tS B Γ P (fun s => Kf (r s))) :=
  pss_imp pss_nil fun D σ H ⟨s, F, A, hm, L⟩ => L.nx σ F H (by
    obtain ⟨o, h2, h3, h4, ho, h5⟩ := A.bo (hG s)
    rw [hP]
    exact ⟨r s, o, hm, A.fin, h3, h4, by rw [← hf]; exact ho⟩)
end
section
variable {P : Program} {w : World} {K : PySem.W.Frag} {mg : Str → Option Value} {base : Heap} {xq qual : Str} {st : Stmt} {f C : Addr} {fd : FuncData} {N ps : List Str} {k : Nat} {ι α : Type} {As : ι → List Pd} {fl : α → List (Str × Pd)}
theorem fnI {mf : ι → (α → Prop) → Prop} (F : Fun K xq qual st f fd) (Sc : FnScope N ps (defScope st)) (hl : ∀ y, (As y).length + 1 = ps.length)
    (hb : ∀ (cdv : Value) (A : Around) (outer : List Env) (s : Shared) (H : Hp) (E : XK), Room k (A.deeper (PyProof.Rows.envOfC qual (defScope st) s.heap.objs.size f cdv)) → ∀ (a : Addr) (y : ι) (Kf : α → Prop) (B : Bs),
      PSs (cxOf CX0 P w K mg base N qual (defScope st) f cdv A outer s H E).nox (defBody st) (tS B (fun _ : Unit => .bo a (OIns C []) :: ((As y).map .im ++ List.replicate (N.length - (As y).length - 1) .any)) (xI B C a fl Kf) (fun _ => mf y Kf))) : FnOk P w K mg base CX0 (k + 1) f fd ps (spI C As (fun r => RIns C (fl r)) mf) := by
  refine F.ok Sc (fun vs H Q E ⟨y, F, K', a, dx, ws, h1, h2, _⟩ => by rw [h1, List.length_cons, h2.len, hl]) fun cdv A outer s H vs Q E hr ⟨y, F0, K', a, dx, ws, h0, h1, h2, hj1, hj2, hj3, hj4, hj5, h3, h4⟩ => ⟨_, hb cdv A outer s H E hr a y K' ⟨F0, H, fun b => b = a, []⟩, (), F0, ?_, h3, ?_⟩
  · subst h0
    have hN : (As y).length + 1 ≤ N.length := by
      rw [hl]
      have := congrArg List.length Sc.pre
      rw [List.length_take] at this
      omega
    have hv : ws.length = (As y).length := h1.len
    obtain ⟨r1, r2⟩ := fits_start (B := ⟨F0, H, fun b => b = a, []⟩) (H := H) (N.length - (As y).length - 1) h1
    have es : L2.start N (.ref a :: ws) = some (.ref a) :: (ws.map some ++ List.replicate (N.length - (As y).length - 1) none) := by
      unfold L2.start
      rw [List.map_cons, List.cons_append, List.length_cons, hv, Nat.sub_add_eq]
    refine ⟨h2, Same.refl _, fun a o e _ => e, fun a o e => .inl e, ?_, ?_, fun b z => ?_, fun _ z => nomatch z⟩
    · rw [es]
      exact ⟨⟨_, rfl, hj1, hj4, ⟨dx, [], rfl, trivial⟩, rfl⟩, r1⟩
    · rw [es]
      show ([a] ++ owA _ _).Nodup
      rw [r2]
      simp
    · have z : b = a := z
      subst z
      exact ⟨hj1, ⟨_, hj4⟩, _, hj4⟩
  · refine ⟨fun σ F' H' ⟨r, o, q1, ⟨q3, q4, q5, q6⟩, q7, q8, ⟨dx', fs, q9, q10⟩⟩ => ?_, fun _ _ _ z => z.elim, fun _ _ _ z => z.elim, fun _ _ _ z => z.elim⟩
    have sF : Same F' (upd F' a o) := same_upd q7
    refine h4 r (upd F' a o) H' q1 ⟨a, dx', fs, rfl, by rw [upd_same, q9], q10.mono sF⟩ (q3.trans sF) (fun b u nb e => q5 b u e nb) (fun b u e => ?_) fun b u e => ?_
    · by_cases hb : b = a
      · subst hb; rw [upd_same] at e; cases e; exact q8
      · rw [upd_ne hb] at e; exact q4 _ _ e
    · by_cases hb : b = a
      · exact .inr (.inl hb)
      · rw [upd_ne hb] at e
        rcases q6 b u e with z | z
        · exact .inl z
        · exact .inr (.inr z)
end
end TL
namespace TL
open PySem L2
def memB {α : Type} [DecidableEq α] (x : α) (xs : List α) : Bool := decide (x ∈ xs)

section
variable {X : Cx} {S S' : Type} {B : Bs} {Γ : S → List Sl} {Γj : S' → List Sl} {K : PySem.W.Frag} {α β γ ι T : Type} {R Ra : α → Pd} {Rb : β → Pd} {e a b c : Expr} {es : List Expr} {pos p : Pos} {x xn : Str} {P : Xt} {st : Stmt} {rest : List Stmt} {k : Nat} {f : Addr} {fd : FuncData} {ps : List Str}
variable {m ma : S → (α → S → Prop) → Prop} {mb : S → (β → S → Prop) → Prop} {O : T → Od} {As : ι → List Pd} {mr : S → (ι → S → Prop) → Prop}

theorem dat_lst {d : α → PyData} {n : Nat} (h : Dat K R d n) : Dat K (RLst R) (fun xs => .list (xs.map d)) (n + 1) :=
  ⟨fun x v F ⟨a, vs, h1, h2, h3⟩ => by subst h1; exact .lst (SqL.of h2) (dpAll (fun x v => h.dp x v F) h3), fun x => canAll h.lay x, fun x y => eqvAll_iff h.inj x y, fun x => by
    show PyData.depthAll (x.map d) + 1 ≤ n + 1
    exact Nat.succ_le_succ (depAll h.dep x)⟩
theorem cr_in [DecidableEq α] {d : α → PyData} {n : Nat} (hK : X.K = K) (hu : X.A.units + 65 < cLine) (h : Dat K R d n) (hn : n ≤ 50 := by decide) : CR X .In R (RLst R) (fun x xs => memB x xs) := by
  show CR X .In R (RLst R) (fun x xs => decide (x ∈ xs))
  subst hK
  refine ⟨_, op_inD hu, OpU.g fun x xs v w F H Q hx hy e q => ?_⟩
  obtain ⟨a, vs, h1, h2, h3⟩ := hy
  subst h1
  refine ⟨d x, xs.map d, Dp.same e (h.dp _ _ _ hx), .lst (SqL.of (e _ _ h2)) (dpAllH rfl h e h3), h.sh (by omega) x, (dat_lst h).sh (by omega) xs, ?_⟩
  refine q _ ?_
  show V.bl _ = V.bl _
  congr 1
  induction xs with
  | nil => rfl
  | cons y ys ih =>
    have hh : List.any (List.map d (y :: ys)) (fun z => PyData.eqv z (d x)) = (PyData.eqv (d y) (d x) || List.any (List.map d ys) fun z => PyData.eqv z (d x)) := rfl
    rw [hh, h.eqv]
    cases vs with
    | nil => exact h3.elim
    | cons v' vs' =>
      have : List.any (List.map d ys) (fun z => PyData.eqv z (d x)) = decide (x ∈ ys) := by
        clear ih h2 q hh
        clear h3
        induction ys with
        | nil => rfl
        | cons z zs ih2 =>
          have h5 : List.any (List.map d (z :: zs)) (fun z => PyData.eqv z (d x)) = (PyData.eqv (d z) (d x) || List.any (List.map d zs) fun z => PyData.eqv z (d x)) := rfl
          rw [h5, h.eqv, ih2]
          by_cases e1 : z = x
          · subst e1; simp
          · by_cases e2 : x ∈ zs
            · simp [e1, e2]
            · have : ¬ x = z := fun q => e1 q.symm
              simp [e1, e2, this]
      rw [this]
      by_cases e1 : y = x
      · subst e1; simp
      · by_cases e2 : x ∈ ys
        · simp [e1, e2]
        · have : ¬ x = y := fun q => e1 q.symm
          simp [e1, e2, this]
theorem te_globI {i : Int} (h : ∃ t, X.mg x = some (.int i t)) (hg : Gl X x := by rfl) (hd : (x == ("__debug__" : Str)) = false := by decide) : PE X (.Name x pos) (tE B Γ RInt (fun s K => K i s)) := by
  obtain ⟨t, h⟩ := h
  exact te_glob (v := V.int i) hg h ⟨t, rfl⟩ (fun _ => rfl) hd
theorem te_globS {i : Str} (h : ∃ t, X.mg x = some (.str i t)) (hg : Gl X x := by rfl) (hd : (x == ("__debug__" : Str)) = false := by decide) : PE X (.Name x pos) (tE B Γ RStr (fun s K => K i s)) := by
  obtain ⟨t, h⟩ := h
  exact te_glob (v := V.str i) hg h ⟨t, rfl⟩ (fun _ => rfl) hd
/-- behind the last statement -/
theorem ts_fall {Kf : Unit → Prop} (hP : P.nx = (xP B RNon Kf).nx := by rfl) : PSs X [] (tS B Γ P (fun _ => Kf ())) :=
  pss_imp pss_nil fun D σ H ⟨s, F, A, hm, L⟩ => L.nx σ F H (by rw [hP]; exact ⟨(), hm, rfl, A.fin⟩)
theorem ts_fallB {Kf : Unit → T → Prop} {j : Addr} (i : Nat) (get : S → T) (hG : ∀ s, (Γ s)[i]? = some (.bo j (O (get s))) := by intro _; rfl) (hP : P.nx = (xB B j O RNon Kf).nx := by rfl) : PSs X [] (tS B Γ P (fun s => Kf () (get s))) :=
  pss_imp pss_nil fun D σ H ⟨s, F, A, hm, L⟩ => L.nx σ F H (by
    obtain ⟨o, _, h2, h3, h4, _⟩ := A.bo (hG s)
    rw [hP]
    exact ⟨(), get s, o, hm, rfl, A.fin, h2, h3, h4⟩)
/-- a, b = x, y -/
theorem ts_par {i j : Nat} {mr : α → β → S → Prop} (h : PS X st (tPar i j (tCons (tE B Γ Ra ma) (tCons (tE B Γ Rb mb) tNil)))) (hr : ∀ x y, PSs X rest (tS B (fun s => ((Γ s).set i (.im (Ra x))).set j (.im (Rb y))) P (mr x y))) :
    PSs X (st :: rest) (tS B Γ P (fun s => ma s fun x s1 => mb s1 fun y s2 => mr x y s2)) :=
  pss_imp (pss_cons h (pss_ex fun z : α × β => hr z.1 z.2)) fun D σ H ⟨s, F, A, hm, L⟩ => ⟨s, F, _, A, hm, fun x s1 v F1 H1 h1 A1 e1 r1 => ⟨s1, F1, _, A1, h1, fun y s2 w F2 H2 h2 A2 e2 r2 => ⟨v, w, rfl, (x, y), s2, F2, (A2.setIm ((Ra x).mono _ _ _ e2 r1)).setIm r2, h2, L⟩⟩⟩
/-- .. the second a new list, owned; the first, the second -/
theorem ts_parO {i j : Nat} {Γ' : α → S' → List Sl} {mk : S → List β → S'} {mr : α → S' → Prop} {mb : S → (List β → S → Prop) → Prop} (h : PS X st (tPar i j (tCons (tE B Γ Ra ma) (tCons (tN B Γ Rb mb) tNil)))) (hG : ∀ x s y, Γ' x (mk s y) = ((Γ s).set i (.im (Ra x))).set j (.ow (OList Rb y))) (hij : i ≠ j) (hr : ∀ x, PSs X rest (tS B (Γ' x) P (mr x))) :
    PSs X (st :: rest) (tS B Γ P (fun s => ma s fun x s1 => mb s1 fun y s2 => mr x (mk s2 y))) :=
  pss_imp (pss_cons h (pss_ex hr)) fun D σ H ⟨s, F, A, hm, L⟩ => ⟨s, F, _, A, hm, fun x s1 v F1 H1 h1 A1 e1 r1 => ⟨s1, F1, _, A1, h1, fun y s2 q vs F2 H2 h2 A2 e2 hq fq bq nq av => ⟨v, .ref q, rfl, x, mk s2 y, F2, by
    rw [hG]
    have A3 := A2.setIm (i := i) (P := Ra x) ((Ra x).mono _ _ _ e2 r1)
    refine A3.setOw fq hq bq (fun z => ?_) ⟨vs, rfl, av⟩
    rcases mem_owA_set z with z | z
    · simp [ownS] at z
    · exact nq z, h2, L⟩⟩⟩

/-! ### the lent thing is the caller's own -/
theorem call_o {mf : ι → T → (α → T → Prop) → Prop} {i : Nat} {get : S → T} {put : S → T → S} (hG : ∀ s, (Γ s)[i]? = some (.ow (O (get s)))) (hP : ∀ s t, Γ (put s t) = (Γ s).set i (.ow (O t))) {σ : L2.St} {H : Hp} {Q : VK} {E : XK}
    (q : tE B Γ R (fun s K => mr s fun y s1 => mf y (get s1) fun r t => K r (put s1 t)) σ H Q) : tCall (spB O As R mf) [] E (tCons (tVar i) (tA B Γ As mr)) σ H Q := by
  obtain ⟨s, F, K', A, hm, k⟩ := q
  obtain ⟨j, ob, h1, h2, h3, h4, h5⟩ := A.ow (hG s)
  refine ⟨_, h1, s, F, _, A, hm, fun y s1 vs F1 H1 q1 A1 e1 r1 => ?_⟩
  show spB O As R mf (.ref j :: vs ++ []) H1 Q E
  rw [List.append_nil]
  obtain ⟨j', ob1, g1, g2, g3, g4, g5⟩ := A1.ow (hG s1)
  rw [h1] at g1
  cases g1
  refine ⟨y, get s1, F1, _, j, vs, ob1, rfl, r1, A1.sub, g2, g3, g4, q1, fun r t' v F' H' o' kr rv eF eH sb nw fj hj ho => ?_⟩
  refine k r (put s1 t') v F' H' kr ?_ (e1.trans eF) rv
  rw [hP]
  have A2 := A1.grow (H' := fun b => if b = j then some ob1 else H' b) eF (fun b u g => by
    by_cases hb : b = j
    · subst hb; rw [g3] at g; cases g; exact if_pos rfl
    · show (if b = j then _ else _) = _
      rw [if_neg hb]; exact eH b u hb g) (fun b u g => by
    by_cases hb : b = j
    · subst hb; rw [fj] at g; cases g
    · show (if b = j then _ else _) = _
      rw [if_neg hb]; exact sb b u g) nw
  have A3 := A2.write (O' := O t') (o := o') (hG s1) h1 ho
  have : upd (fun b => if b = j then some ob1 else H' b) j o' = H' := by
    funext b
    unfold upd
    by_cases hb : b = j
    · subst hb; rw [if_pos rfl, hj]
    · rw [if_neg hb]
      show (if b = j then _ else _) = _
      rw [if_neg hb]
  rw [this] at A3
  exact A3
theorem te_callO {mf : ι → T → (α → T → Prop) → Prop} {pn : Pos} (i : Nat) (get : S → T) (put : S → T → S) (F : FnOk X.prog X.w X.K X.mg X.base CX0 k f fd ps (spB O As R mf)) (hr : Room k X.A) (hm : X.mg x = some (.ref f)) (hk : PySem.W.keepIn X.K (.ref f) = true) (hb : Binds X.K fd ps []) (ha : PA X es (tA B Γ As mr))
    (hG : ∀ s, (Γ s)[i]? = some (.ow (O (get s))) := by intro _; rfl) (hP : ∀ s t, Γ (put s t) = (Γ s).set i (.ow (O t)) := by intro _ _; rfl) (hN : X.N[i]? = some xn := by rfl) (hv : Vis X.env.scope xn := by first | exact Or.inl rfl | exact Or.inr (Or.inl rfl) | exact Or.inr (Or.inr rfl)) (hd : (xn == ("__debug__" : Str)) = false := by decide) (hcd : (xn == ("__classdict__" : Str)) = false := by decide)
    (hg : Gl X x := by rfl) (hdb : (x == ("__debug__" : Str)) = false := by decide) (hs : starEach (.Name xn pn :: es) X.env = (false, eval (.Name xn pn) X.env) :: starEach es X.env := by rfl) (hpl : (backTo pos (starEach es X.env)).any (·.1) = false := by rfl) :
    PE X (.Call (.Name x p) (.Name xn pn :: es) [] pos) (tE B Γ R (fun s K => mr s fun y s1 => mf y (get s1) fun r t => K r (put s1 t))) :=
  pe_imp (pe_call F hr hg hm hk hb .nil (pass0 (X := X)) (pa_cons (pe_var hN hv hd hcd) ha hs) hdb hs hpl) fun _ _ _ q => call_o hG hP q
end
/-! ### a def that hands back a thing of its caller's -/
def spO {ι T : Type} (O : T → Od) (As : ι → List Pd) (m : ι → (T → Prop) → Prop) : Sp := fun vs H Q _ => ∃ y F K, AllP (As y) vs F ∧ Same F H ∧ m y K ∧
  ∀ t q F' H' o, K t → Same F F' → Same H H' → Same F' H' → Nw F H F' → H q = none → F' q = none → H' q = some o → (O t).p o F' → Q (.ref q) H'
section
variable {X : Cx} {S S' : Type} {B : Bs} {Γ : S → List Sl} {K : PySem.W.Frag} {ι T : Type} {e : Expr} {es : List Expr} {pos spos p p' : Pos} {x xn : Str} {P : Xt} {rest : List Stmt} {k : Nat} {f : Addr} {fd : FuncData} {ps : List Str} {O : T → Od} {As : ι → List Pd} {mr : S → (ι → S → Prop) → Prop}
theorem ts_setCallO {i : Nat} {Γ' : S' → List Sl} {mk : S → T → S'} {mr2 : S' → Prop} {mf : ι → (T → Prop) → Prop} (nd : X.N.Nodup) (F : FnOk X.prog X.w X.K X.mg X.base CX0 k f fd ps (spO O As mf)) (hr0 : Room k X.A) (hm : X.mg x = some (.ref f)) (hk : PySem.W.keepIn X.K (.ref f) = true) (hb : Binds X.K fd ps []) (ha : PA X (e :: es) (tA B Γ As mr))
    (hG : ∀ s t, Γ' (mk s t) = (Γ s).set i (.ow (O t))) (hr : PSs X rest (tS B Γ' P mr2)) (hi : X.N[i]? = some xn := by rfl) (hx : Loc X.env.scope xn := by first | exact Or.inl rfl | exact Or.inr rfl) (hg : Gl X x := by rfl) (hdb : (x == ("__debug__" : Str)) = false := by decide)
    (hs : starEach (e :: es) X.env = (false, eval e X.env) :: starEach es X.env := by rfl) (hpl : (backTo pos (starEach es X.env)).any (·.1) = false := by rfl) (hsw : swapsWith (.Call (.Name x p) (e :: es) [] pos) (some (.Name xn p')) spos.line X.env = pure false := by rfl) (hf : X.fn xn = true ∨ X.env.scope.names.lookup xn = some .local := by first | exact .inl rfl | exact .inr rfl) :
    PSs X (.Assign [.Name xn p'] (.Call (.Name x p) (e :: es) [] pos) spos :: rest) (tS B Γ P (fun s => mr s fun y s1 => mf y fun t => mr2 (mk s1 t))) :=
  pss_imp (pss_cons (ps_set nd hi hx (pe_call F hr0 hg hm hk hb .nil (pass0 (X := X)) ha hdb hs hpl) hsw hf) hr) fun D σ H ⟨s, F, A, hm, L⟩ => ⟨s, F, _, A, hm, fun y s1 vs F1 H1 h1 A1 e1 r1 => by
    show spO O As mf (vs ++ []) H1 _ _
    rw [List.append_nil]
    refine ⟨y, F1, _, r1, A1.sub, h1, fun t q F' H' o kt eF eH sb nw nq fq hq ho => ?_⟩
    have A2 := A1.grow eF eH sb nw
    refine ⟨mk s1 t, F', ?_, kt, L⟩
    rw [hG]
    exact A2.setOw fq hq (A1.fresh nq).2 (A1.notOwn nq) ho⟩
end
end TL
namespace TL
open PySem L2

/-! ### isinstance, the kind being known -/
def TyR {α : Type} (K : PySem.W.Frag) (R : α → Pd) (t : Value) : Prop := ∀ x v F H, (R x).p v F → Same F H → TyX K H v t
section
variable {K : PySem.W.Frag} {α β : Type} {R Ra : α → Pd} {Rb : β → Pd}
theorem ty_int : TyR K RInt (.type "int") := fun x v F H h _ => by
  rw [show v = V.int x from h]; exact .base (.int x)
theorem ty_bool : TyR K RBool (.type "bool") := fun x v F H h _ => by
  rw [show v = V.bl x from h]; exact .base (.bl x)
theorem ty_str : TyR K RStr (.type "str") := fun x v F H h _ => by
  rw [show v = V.str x from h]; exact .base (.str x)
theorem ty_non : TyR K RNon (.type "NoneType") := fun x v F H h _ => by
  rw [show v = V.non from h]; exact .base .non
theorem ty_lst : TyR K (RLst R) (.type "list") := fun x v F H ⟨a, vs, h, h1, _⟩ e => by
  subst h; exact .base (.lst (e _ _ h1))
theorem ty_rd_l {H : Hp} {a : Addr} {vs : List V} (h : SqL K H a vs) : TyX K H (.ref a) (.type "list") := by
  rcases h with z | ⟨o, its, n, h1, h2, _⟩
  · rcases z with z | ⟨o, z⟩
    · exact .base (.lst z)
    · exact .base (.frz z)
  · exact .kList h1 h2
theorem ty_rd_t {H : Hp} {a : Addr} {vs : List V} (h : SqT K H a vs) : TyX K H (.ref a) (.type "tuple") := by
  rcases h with z | ⟨o, its, n, h1, h2, _⟩
  · rcases z with z | ⟨o, z⟩
    · exact .base (.tup z)
    · exact .fTuple z
  · exact .kTuple h1 h2
theorem ty_list : TyR K (RList K R) (.type "list") := fun x v F H ⟨a, vs, h, h1, _⟩ e => by
  subst h; exact ty_rd_l (seqL_mono e h1)
theorem ty_tup : TyR K (RTup K R) (.type "tuple") := fun x v F H ⟨a, vs, h, h1, _⟩ e => by
  subst h; exact ty_rd_t (seqT_mono e h1)
theorem ty_pair : TyR K (RPair K Ra Rb) (.type "tuple") := fun x v F H ⟨a, v1, v2, h, h1, _⟩ e => by
  subst h; exact ty_rd_t (seqT_mono e h1)
theorem ty_ins {C : Addr} {fl : α → List (Str × Pd)} (c : C8.InsC K C) : TyR K (fun x => RIns C (fl x)) (.ref C) := fun x v F H ⟨a, dx, fs, h, h1, _⟩ e => by
  subst h; exact .base (.ins (e _ _ h1) c.cl c.ha c.hn c.htk c.hm)
variable {X : Cx} {S : Type} {B : Bs} {Γ : S → List Sl} {e c d : Expr} {p pos pc : Pos} {m : S → (α → S → Prop) → Prop} {t u u' : Value} {b : Bool} {v v' : V} {n : String} {x : Str}
/-- a class as an expression -/
def PCl (X : Cx) (c : Expr) (u : Value) : Prop := ∃ v, PE X c (tC v) ∧ ClsV v u
theorem pcl_ty (hg : Gl X x) (hm : X.mg x = none) (hv : bootBuiltins x = some (.type n)) (hn : x ≠ "__name__" := by decide) (hd : (x == ("__debug__" : Str)) = false := by decide) : PCl X (.Name x pc) (.type n) := ⟨.ty n, pe_bltn hg hm hv rfl hn hd, .ty n⟩
theorem pcl_own {C : Addr} (hm : X.mg x = some (.ref C)) (hg : Gl X x := by rfl) (hd : (x == ("__debug__" : Str)) = false := by decide) : PCl X (.Name x pc) (.ref C) := ⟨.ref C, pe_glob hg hm rfl hd, .own C⟩
theorem te_isi (P : BP X "isinstance" (.builtin "isinstance")) (ty : TyR X.K R t) (he : PE X e (tE B Γ R m)) (hc : PCl X c u) (hk : PySem.W.kitOne X.K t u = some b)
    (hs : starEach [e, c] X.env = (false, eval e X.env) :: starEach [c] X.env := by rfl) (hs2 : starEach [c] X.env = (false, eval c X.env) :: starEach [] X.env := by rfl) (hpl : (backTo pos (starEach [c] X.env)).any (·.1) = false := by rfl) :
    PE X (.Call (.Name "isinstance" p) [e, c] [] pos) (tE B Γ RBool (fun s K => m s fun _ s1 => K b s1)) := by
  obtain ⟨v, hc, hv⟩ := hc
  exact pe_imp (pe_callB call_isi P.g P.m P.v (pa_cons he (pa_cons hc pa_nil hs2) hs) P.n P.d hs hpl) fun σ H Q ⟨s, F, K', A, hm, k⟩ => ⟨s, F, _, A, hm, fun x s1 w F1 H1 h1 A1 e1 r1 => ⟨w, v, t, u, b, rfl, hv, ty x w F1 H1 r1 A1.sub, hk, k b s1 (.bl b) F1 H1 h1 A1 e1 rfl⟩⟩
/-- isinstance(e, (c, d)) -/
theorem te_isi2 {k : Nat} {pt : Pos} (P : BP X "isinstance" (.builtin "isinstance")) (ty : TyR X.K R t) (he : PE X e (tE B Γ R m)) (hc : PCl X c u) (hd : PCl X d u') (hk : PySem.W.kitAny X.K t [u, u'] = some b)
    (hs : starEach [e, .Tuple [c, d] k pt] X.env = (false, eval e X.env) :: starEach [.Tuple [c, d] k pt] X.env := by rfl) (hs2 : starEach [.Tuple [c, d] k pt] X.env = (false, eval (.Tuple [c, d] k pt) X.env) :: starEach [] X.env := by rfl) (hpl : (backTo pos (starEach [.Tuple [c, d] k pt] X.env)).any (·.1) = false := by rfl)
    (hs3 : starEach [c, d] X.env = (false, eval c X.env) :: starEach [d] X.env := by rfl) (hs4 : starEach [d] X.env = (false, eval d X.env) :: starEach [] X.env := by rfl) :
    PE X (.Call (.Name "isinstance" p) [e, .Tuple [c, d] k pt] [] pos) (tE B Γ RBool (fun s K => m s fun _ s1 => K b s1)) := by
  obtain ⟨v, hc, hv⟩ := hc
  obtain ⟨v', hd, hv'⟩ := hd
  exact pe_imp (pe_callB call_isiT P.g P.m P.v (pa_cons he (pa_cons (pe_tup (pa_cons hc (pa_cons hd pa_nil hs4) hs3)) pa_nil hs2) hs) P.n P.d hs hpl) fun σ H Q ⟨s, F, K', A, hm, k⟩ => ⟨s, F, _, A, hm, fun x s1 w F1 H1 h1 A1 e1 r1 => ⟨by show 2 ≤ sizeLine; decide, fun q nq =>
    ⟨w, q, [v, v'], t, [u, u'], b, rfl, upd_same, .cons hv (.cons hv' .nil), ty x w F1 _ r1 (A1.sub.trans (same_upd nq)), hk, k b s1 (.bl b) F1 _ h1 (A1.layH nq) e1 rfl⟩⟩⟩
theorem bg_int {X : Cx} (hm : X.mg "int" = none) (hg : Gl X "int" := by rfl) : PCl X (.Name "int" pc) (.type "int") := pcl_ty hg hm (by decide +kernel)
theorem bg_bool {X : Cx} (hm : X.mg "bool" = none) (hg : Gl X "bool" := by rfl) : PCl X (.Name "bool" pc) (.type "bool") := pcl_ty hg hm (by decide +kernel)
theorem bg_str {X : Cx} (hm : X.mg "str" = none) (hg : Gl X "str" := by rfl) : PCl X (.Name "str" pc) (.type "str") := pcl_ty hg hm (by decide +kernel)
theorem bg_list {X : Cx} (hm : X.mg "list" = none) (hg : Gl X "list" := by rfl) : PCl X (.Name "list" pc) (.type "list") := pcl_ty hg hm (by decide +kernel)
theorem bg_tuple {X : Cx} (hm : X.mg "tuple" = none) (hg : Gl X "tuple" := by rfl) : PCl X (.Name "tuple" pc) (.type "tuple") := pcl_ty hg hm (by decide +kernel)
end
theorem kit2 {K : PySem.W.Frag} {a b c : String} {r1 r2 : Bool} (h : kitB a b = some r1) (h2 : kitB a c = some r2) : PySem.W.kitAny K (.type a) [.type b, .type c] = some (r1 || r2) := by
  unfold PySem.W.kitAny
  rw [kit_ty h]
  cases r1 with
  | true => rfl
  | false =>
    show PySem.W.kitAny K (.type a) [.type c] = _
    unfold PySem.W.kitAny
    rw [kit_ty h2]
    cases r2 <;> rfl

/-! ### the law's jar: [cells, at, rest] -/
abbrev Jar := List Int × Int × Int
def OJar (j : Jar) : Od := ⟨fun o F => ∃ v, o = .lst [v, .int j.2.1, .int j.2.2] ∧ (RLst RInt j.1).p v F, fun _ _ _ e ⟨v, h1, h2⟩ => ⟨v, h1, (RLst RInt _).mono _ _ _ e h2⟩⟩
section
variable {X : Cx} {S S' : Type} {B : Bs} {Γ : S → List Sl} {K : PySem.W.Frag} {e : Expr} {pos pn pb p' : Pos} {xn : Str} {kk : Nat} {j : Addr} {P : Xt} {rest : List Stmt}
theorem te_jar0 (i : Nat) (get : S → Jar) (hG : ∀ s, (Γ s)[i]? = some (.bo j (OJar (get s))) := by intro _; rfl) (hN : X.N[i]? = some xn := by rfl) (hv : Vis X.env.scope xn := by first | exact Or.inl rfl | exact Or.inr (Or.inl rfl) | exact Or.inr (Or.inr rfl)) (hd : (xn == ("__debug__" : Str)) = false := by decide) (hcd : (xn == ("__classdict__" : Str)) = false := by decide)
    (hs : PlainIx (.Constant (.int 0) kk pb) := by exact fun _ _ => rfl) : PE X (.Subscript (.Name xn pn) (.Constant (.int 0) kk pb) pos) (tE B Γ (RLst RInt) (fun s K => K (get s).1 s)) :=
  pe_imp (pe_ix ix_list (pe_var hN hv hd hcd) pe_int hs) fun σ H Q ⟨s, F, K', A, hm, k⟩ => by
    obtain ⟨o, h1, h2, h3, ⟨v, h4, h5⟩, h6⟩ := A.bo (hG s)
    subst h4
    exact ⟨_, h1, j, _, 0, v, rfl, rfl, SqL.of h3, rfl, k _ s v F H hm A (Same.refl F) h5⟩
theorem te_jar1 (i : Nat) (get : S → Jar) (hG : ∀ s, (Γ s)[i]? = some (.bo j (OJar (get s))) := by intro _; rfl) (hN : X.N[i]? = some xn := by rfl) (hv : Vis X.env.scope xn := by first | exact Or.inl rfl | exact Or.inr (Or.inl rfl) | exact Or.inr (Or.inr rfl)) (hd : (xn == ("__debug__" : Str)) = false := by decide) (hcd : (xn == ("__classdict__" : Str)) = false := by decide)
    (hs : PlainIx (.Constant (.int 1) kk pb) := by exact fun _ _ => rfl) : PE X (.Subscript (.Name xn pn) (.Constant (.int 1) kk pb) pos) (tE B Γ RInt (fun s K => K (get s).2.1 s)) :=
  pe_imp (pe_ix ix_list (pe_var hN hv hd hcd) pe_int hs) fun σ H Q ⟨s, F, K', A, hm, k⟩ => by
    obtain ⟨o, h1, h2, h3, ⟨v, h4, h5⟩, h6⟩ := A.bo (hG s)
    subst h4
    exact ⟨_, h1, j, _, 1, _, rfl, rfl, SqL.of h3, rfl, k _ s (.int (get s).2.1) F H hm A (Same.refl F) rfl⟩
theorem te_jar2 (i : Nat) (get : S → Jar) (hG : ∀ s, (Γ s)[i]? = some (.bo j (OJar (get s))) := by intro _; rfl) (hN : X.N[i]? = some xn := by rfl) (hv : Vis X.env.scope xn := by first | exact Or.inl rfl | exact Or.inr (Or.inl rfl) | exact Or.inr (Or.inr rfl)) (hd : (xn == ("__debug__" : Str)) = false := by decide) (hcd : (xn == ("__classdict__" : Str)) = false := by decide)
    (hs : PlainIx (.Constant (.int 2) kk pb) := by exact fun _ _ => rfl) : PE X (.Subscript (.Name xn pn) (.Constant (.int 2) kk pb) pos) (tE B Γ RInt (fun s K => K (get s).2.2 s)) :=
  pe_imp (pe_ix ix_list (pe_var hN hv hd hcd) pe_int hs) fun σ H Q ⟨s, F, K', A, hm, k⟩ => by
    obtain ⟨o, h1, h2, h3, ⟨v, h4, h5⟩, h6⟩ := A.bo (hG s)
    subst h4
    exact ⟨_, h1, j, _, 2, _, rfl, rfl, SqL.of h3, rfl, k _ s (.int (get s).2.2) F H hm A (Same.refl F) rfl⟩
variable {m : S → (Int → S → Prop) → Prop} {mr : S → Prop}
theorem ts_jar1 (i : Nat) (get : S → Jar) (put : S → Jar → S) (he : PE X e (tE B Γ RInt m)) (hr : PSs X rest (tS B Γ P mr)) (hG : ∀ s, (Γ s)[i]? = some (.bo j (OJar (get s))) := by intro _; rfl) (hP : ∀ s t, Γ (put s t) = (Γ s).set i (.bo j (OJar t)) := by intro _ _; rfl) (hN : X.N[i]? = some xn := by rfl) (hv : Vis X.env.scope xn := by first | exact Or.inl rfl | exact Or.inr (Or.inl rfl) | exact Or.inr (Or.inr rfl)) (hd : (xn == ("__debug__" : Str)) = false := by decide) (hcd : (xn == ("__classdict__" : Str)) = false := by decide)
    (hs : swapsWithSole [.Subscript (.Name xn pn) (.Constant (.int 1) kk pb) p'] e pos.line X.env = pure false := by rfl) (hw : swappedStores [.Subscript (.Name xn pn) (.Constant (.int 1) kk pb) p'] e X.env = pure none := by rfl)
    (h1 : (assignEach [.Subscript (.Name xn pn) (.Constant (.int 1) kk pb) p'] X.env).map (·.2) = [assign (.Subscript (.Name xn pn) (.Constant (.int 1) kk pb) p') X.env] := by rfl) :
    PSs X (.Assign [.Subscript (.Name xn pn) (.Constant (.int 1) kk pb) p'] e pos :: rest) (tS B Γ P (fun s => m s fun x s1 => mr (put s1 ((get s1).1, x, (get s1).2.2)))) :=
  pss_imp (pss_cons (ps_asg he (pg_sub (pe_var hN hv hd hcd) pe_int set_list) hs hw h1) hr) fun D σ H ⟨s, F, A, hm, L⟩ => ⟨s, F, _, A, hm, fun x s1 w F1 H1 q1 A1 e1 r1 => by
    obtain ⟨o, h1, h2, h3, ⟨v, h4, h5⟩, h6⟩ := A1.bo (hG s1)
    subst h4
    rw [show w = V.int x from r1]
    exact ⟨_, h1, j, _, 1, 1, rfl, rfl, h3, rfl, _, F1, by rw [hP]; exact A1.writeB (O' := OJar ((get s1).1, x, (get s1).2.2)) (hG s1) ⟨v, rfl, h5⟩, q1, L⟩⟩
theorem ts_jar2 (i : Nat) (get : S → Jar) (put : S → Jar → S) (he : PE X e (tE B Γ RInt m)) (hr : PSs X rest (tS B Γ P mr)) (hG : ∀ s, (Γ s)[i]? = some (.bo j (OJar (get s))) := by intro _; rfl) (hP : ∀ s t, Γ (put s t) = (Γ s).set i (.bo j (OJar t)) := by intro _ _; rfl) (hN : X.N[i]? = some xn := by rfl) (hv : Vis X.env.scope xn := by first | exact Or.inl rfl | exact Or.inr (Or.inl rfl) | exact Or.inr (Or.inr rfl)) (hd : (xn == ("__debug__" : Str)) = false := by decide) (hcd : (xn == ("__classdict__" : Str)) = false := by decide)
    (hs : swapsWithSole [.Subscript (.Name xn pn) (.Constant (.int 2) kk pb) p'] e pos.line X.env = pure false := by rfl) (hw : swappedStores [.Subscript (.Name xn pn) (.Constant (.int 2) kk pb) p'] e X.env = pure none := by rfl)
    (h1 : (assignEach [.Subscript (.Name xn pn) (.Constant (.int 2) kk pb) p'] X.env).map (·.2) = [assign (.Subscript (.Name xn pn) (.Constant (.int 2) kk pb) p') X.env] := by rfl) :
    PSs X (.Assign [.Subscript (.Name xn pn) (.Constant (.int 2) kk pb) p'] e pos :: rest) (tS B Γ P (fun s => m s fun x s1 => mr (put s1 ((get s1).1, (get s1).2.1, x)))) :=
  pss_imp (pss_cons (ps_asg he (pg_sub (pe_var hN hv hd hcd) pe_int set_list) hs hw h1) hr) fun D σ H ⟨s, F, A, hm, L⟩ => ⟨s, F, _, A, hm, fun x s1 w F1 H1 q1 A1 e1 r1 => by
    obtain ⟨o, h1, h2, h3, ⟨v, h4, h5⟩, h6⟩ := A1.bo (hG s1)
    subst h4
    rw [show w = V.int x from r1]
    exact ⟨_, h1, j, _, 2, 2, rfl, rfl, h3, rfl, _, F1, by rw [hP]; exact A1.writeB (O' := OJar ((get s1).1, (get s1).2.1, x)) (hG s1) ⟨v, rfl, h5⟩, q1, L⟩⟩
/-- return [[..], 0, 0]: the jar is handed over -/
def xO {T : Type} (B : Bs) (O : T → Od) (Kf : T → Prop) : Xt := { nx := fun _ _ _ => False, rt := fun v F H => ∃ t q o, Kf t ∧ v = .ref q ∧ Fin B F H ∧ B.H q = none ∧ F q = none ∧ H q = some o ∧ (O t).p o F }
theorem ts_retJar {a b c : Expr} {pl : Pos} {ma : S → (List Int → S → Prop) → Prop} {mb mc : S → (Int → S → Prop) → Prop} {Kf : Jar → Prop} (ha : PE X a (tE B Γ (RLst RInt) ma)) (hb : PE X b (tE B Γ RInt mb)) (hc : PE X c (tE B Γ RInt mc)) (hP : P.rt = (xO B OJar Kf).rt := by rfl)
    (hs : starEach [a, b, c] X.env = (false, eval a X.env) :: starEach [b, c] X.env := by rfl) (hs2 : starEach [b, c] X.env = (false, eval b X.env) :: starEach [c] X.env := by rfl) (hs3 : starEach [c] X.env = (false, eval c X.env) :: starEach [] X.env := by rfl) :
    PSs X [.Return (some (.List [a, b, c] pl)) pos] (tS B Γ P (fun s => ma s fun x s1 => mb s1 fun y s2 => mc s2 fun z _ => Kf (x, y, z))) :=
  pss_imp (pss_one (ps_ret (pe_lst (ta_cons ha (ta_cons hb (ta_cons hc ta_nil hs3) hs2) hs)))) fun D σ H ⟨s, F, A, hm, L⟩ => ⟨s, F, fun x s' => Kf (x.1, x.2.1, x.2.2.1), A, hm, fun x s1 vs F1 H1 q1 A1 e1 r1 => by
    obtain ⟨x, y, z, u⟩ := x
    match vs, r1 with
    | [v1, v2, v3], ⟨r1, r2, r3, _⟩ =>
      refine ⟨by show 3 ≤ sizeLine; decide, fun p np => L.rt (.ref p) F1 _ ?_⟩
      rw [hP]
      have fr := A1.fresh np
      have A2 := A1.layH (o := .lst [v1, v2, v3]) np
      rw [show v2 = V.int y from r2, show v3 = V.int z from r3] at A2 ⊢
      exact ⟨(x, y, z), p, _, q1, rfl, A2.fin, fr.2, fr.1, upd_same, v1, rfl, r1⟩⟩
end
section
variable {P : Program} {w : World} {K : PySem.W.Frag} {mg : Str → Option Value} {base : Heap} {xq qual : Str} {st : Stmt} {f : Addr} {fd : FuncData} {N ps : List Str} {k : Nat} {ι T : Type} {As : ι → List Pd} {O : T → Od}
theorem fnO {mf : ι → (T → Prop) → Prop} (F : Fun K xq qual st f fd) (Sc : FnScope N ps (defScope st)) (hl : ∀ y, (As y).length = ps.length)
    (hb : ∀ (cdv : Value) (A : Around) (outer : List Env) (s : Shared) (H : Hp) (E : XK), Room k (A.deeper (PyProof.Rows.envOfC qual (defScope st) s.heap.objs.size f cdv)) → ∀ (y : ι) (Kf : T → Prop) (B : Bs),
      PSs (cxOf CX0 P w K mg base N qual (defScope st) f cdv A outer s H E).nox (defBody st) (tS B (fun _ : Unit => startG N (As y)) (xO B O Kf) (fun _ => mf y Kf))) : FnOk P w K mg base CX0 (k + 1) f fd ps (spO O As mf) := by
  refine F.ok Sc (fun vs H Q E h => ?_) (fun cdv A outer s H vs Q E hr h => ?_)
  · obtain ⟨y, F, K', h1, _⟩ := h
    rw [h1.len]; exact hl y
  · obtain ⟨y, F, K', h1, h2, h3, h4⟩ := h
    refine ⟨_, hb cdv A outer s H E hr y K' ⟨F, H, fun _ => False, []⟩, ?_⟩
    refine ⟨(), F, ?_, h3, ?_⟩
    · have hl' : N.length - (As y).length = N.length - ps.length := by rw [hl y]
      have hp : ps.length ≤ N.length := by
        have := congrArg List.length Sc.pre
        rw [List.length_take] at this
        omega
      have hv : vs.length = (As y).length := h1.len
      obtain ⟨r1, r2⟩ := fits_start (B := ⟨F, H, fun _ => False, []⟩) (H := H) (N.length - (As y).length) h1
      refine ⟨h2, Same.refl _, fun a o e _ => e, fun a o e => .inl e, ?_, ?_, fun a z => z.elim, fun _ z => nomatch z⟩
      · show Fits _ F H (startG N (As y)) (L2.start N vs)
        unfold startG L2.start
        rw [hv]
        exact r1
      · show (owA (startG N (As y)) (L2.start N vs)).Nodup
        unfold startG L2.start
        rw [hv, r2]
        exact List.Pairwise.nil
    · refine ⟨fun _ _ _ z => z.elim, fun v F' H' ⟨t, q, o, q1, q2, q3, q4, q5, q6, q7⟩ => ?_, fun _ _ _ z => z.elim, fun _ _ _ z => z.elim⟩
      subst q2
      exact h4 t q F' H' o q1 q3.1 (fun a o e => q3.2.2.1 a o e id) q3.2.1 q3.2.2.2 q4 q5 q6 q7
end
end TL
namespace TL
open PySem L2
section
variable {X : Cx} {S S' : Type} {B : Bs} {Γ : S → List Sl} {K : PySem.W.Frag} {α β γ ι : Type} {R Ra : α → Pd} {Rb : β → Pd} {Rc : γ → Pd} {e a b c tg it elt cond : Expr} {pos p spos py : Pos} {x y : Str} {scope : Scope} {own : List (Str × Nat)}
variable {m ma : S → (α → S → Prop) → Prop} {mb : S → (β → S → Prop) → Prop} {g : TG} {js : List Nat} {up : List Sl → α → List Sl}
theorem tn_e {m : S → (List α → S → Prop) → Prop} {σ : L2.St} {H : Hp} {Q : VK} (q : tE B Γ (RLst R) m σ H Q) : tN B Γ R m σ H Q := by
  obtain ⟨s, F, K', A, hm, k⟩ := q
  exact ⟨s, F, K', A, hm, fun xs s' p vs F' H' kx A' e' hp fp bp np av => by
    obtain ⟨A2, sF⟩ := A'.know fp hp bp np
    exact k xs s' (.ref p) (upd F' p (.lst vs)) H' kx A2 (e'.trans sF) ⟨p, vs, rfl, upd_same, av.mono sF⟩⟩
/-- y = [e for x in xs if c], y a plain local, on one row -/
theorem ps_compIf {i : Nat} {mi : S → (List α → S → Prop) → Prop} {mt : S → α → Unit → (Bool → Unit → Prop) → Prop} {me : S → α → Unit → (β → Unit → Prop) → Prop} (nd : X.N.Nodup) (hi : PI X tg it (tI B Γ R mi)) (ok : BlkOk X.N X.env.scope scope own)
    (hg : ∀ (s : Shared) (H : Hp) (C : Addr) (cl : List (Str × Addr)) (fp : List Addr), PG (X.blk s H scope (compEnvC scope cl C X.env) fp) tg g) (tgt : Tg g R js up)
    (ht : ∀ (s1 : S) (x : α) (B' : Bs) (s : Shared) (H : Hp) (C : Addr) (cl : List (Str × Addr)) (fp : List Addr), PT (X.blk s H scope (compEnvC scope cl C X.env) fp) cond (tT B' (fun _ : Unit => up (pureFrom (own.map (·.2)) 0 (Γ s1)) x) (mt s1 x)))
    (he : ∀ (s1 : S) (x : α) (B' : Bs) (s : Shared) (H : Hp) (C : Addr) (cl : List (Str × Addr)) (fp : List Addr), PE (X.blk s H scope (compEnvC scope cl C X.env) fp) elt (tE B' (fun _ : Unit => up (pureFrom (own.map (·.2)) 0 (Γ s1)) x) Rb (me s1 x)))
    (hsw : swapsWith (.ListComp elt [⟨tg, it, [cond], 0⟩] scope pos) (some (.Name y py)) spos.line X.env = pure true := by exact sw_true rfl rfl rfl (by decide +kernel)) (hy : X.N[i]? = some y := by rfl) (hyl : X.env.scope.names.lookup y = some .local := by rfl)
    (hj : ∀ j ∈ js, j ∈ own.map (·.2) := by decide) (hc : X.calm = true := by rfl) (hs : ∀ x, foldedSetIterable it X.env x = pure x := by intro _; rfl) :
    PS X (.Assign [.Name y py] (.ListComp elt [⟨tg, it, [cond], 0⟩] scope pos) spos) (tAsg (tE B Γ (RLst Rb) (fun s K => mi s fun xs s1 => xs.length ≤ 1000000 ∧ mMapIf xs (fun x K => mt s1 x () fun b _ => K b) (fun x K => me s1 x () fun y _ => K y) fun ys => K ys s1)) (gName i)) :=
  ps_imp (ps_setLc hc nd hy hyl hsw hi ok hg (fun s H C cl fp => pts_one (pt_imp (t := fun σ H Q => ∃ i : S × α × Bs, tT i.2.2 (fun _ : Unit => up (pureFrom (own.map (·.2)) 0 (Γ i.1)) i.2.1) (mt i.1 i.2.1) σ H Q)
      ⟨fun pins s' σ H' Q I ⟨i, q⟩ => (ht i.1 i.2.1 i.2.2 s H C cl fp).run pins s' σ H' Q I q⟩ fun _ _ _ q => q))
    (fun s H C cl fp => pe_ex fun i : S × α × Bs => he i.1 i.2.1 i.2.2 s H C cl fp) hs)
    fun D σ H q => lc_read (mt := fun s1 x K => mt s1 x () fun b _ => K b) (me := fun s1 x K => me s1 x () fun y _ => K y) tgt (fun s => pur_pure _ 0 _) hj (fun s i hi => pure_any _ 0 _ i (by simpa using hi)) (tn_e q)
theorem ps_map {i : Nat} {mi : S → (List α → S → Prop) → Prop} {me : S → α → Unit → (β → Unit → Prop) → Prop} (nd : X.N.Nodup) (hi : PI X tg it (tI B Γ R mi)) (ok : BlkOk X.N X.env.scope scope own)
    (hg : ∀ (s : Shared) (H : Hp) (C : Addr) (cl : List (Str × Addr)) (fp : List Addr), PG (X.blk s H scope (compEnvC scope cl C X.env) fp) tg g) (tgt : Tg g R js up)
    (he : ∀ (s1 : S) (x : α) (B' : Bs) (s : Shared) (H : Hp) (C : Addr) (cl : List (Str × Addr)) (fp : List Addr), PE (X.blk s H scope (compEnvC scope cl C X.env) fp) elt (tE B' (fun _ : Unit => up (pureFrom (own.map (·.2)) 0 (Γ s1)) x) Rb (me s1 x)))
    (hsw : swapsWith (.ListComp elt [⟨tg, it, [], 0⟩] scope pos) (some (.Name y py)) spos.line X.env = pure true := by exact sw_true rfl rfl rfl (by decide +kernel)) (hy : X.N[i]? = some y := by rfl) (hyl : X.env.scope.names.lookup y = some .local := by rfl)
    (hj : ∀ j ∈ js, j ∈ own.map (·.2) := by decide) (hc : X.calm = true := by rfl) (hs : ∀ x, foldedSetIterable it X.env x = pure x := by intro _; rfl) :
    PS X (.Assign [.Name y py] (.ListComp elt [⟨tg, it, [], 0⟩] scope pos) spos) (tAsg (tE B Γ (RLst Rb) (fun s K => mi s fun xs s1 => xs.length ≤ 1000000 ∧ mMap xs (fun x K => me s1 x () fun y _ => K y) fun ys => K ys s1)) (gName i)) :=
  ps_imp (ps_setLc hc nd hy hyl hsw hi ok hg (fun s H C cl fp => pts_ex fun i : S × α × Bs => pts_yes (B' := i.2.2) (Γ' := fun _ : Unit => up (pureFrom (own.map (·.2)) 0 (Γ i.1)) i.2.1))
    (fun s H C cl fp => pe_ex fun i : S × α × Bs => he i.1 i.2.1 i.2.2 s H C cl fp) hs)
    fun D σ H q => lc_read (mt := fun _ _ K => K true) (me := fun s1 x K => me s1 x () fun y _ => K y) tgt (fun s => pur_pure _ 0 _) hj (fun s i hi => pure_any _ 0 _ i (by simpa using hi)) (by
      obtain ⟨s, F, K', A, hm, k⟩ := tn_e q
      refine ⟨s, F, K', A, ?_, k⟩
      have : (fun (xs : List α) (s1 : S) => xs.length ≤ 1000000 ∧ mMapIf xs (fun _ K => K true) (fun x K => me s1 x () fun y _ => K y) fun ys => K' ys s1) = (fun xs s1 => xs.length ≤ 1000000 ∧ mMap xs (fun x K => me s1 x () fun y _ => K y) fun ys => K' ys s1) := by
        funext xs s1
        rw [← mMapIf_true]
      show mi s (fun (xs : List α) (s1 : S) => xs.length ≤ 1000000 ∧ mMapIf xs (fun _ K => K true) (fun x K => me s1 x () fun y _ => K y) fun ys => K' ys s1)
      rw [this]
      exact hm)
end
end TL
namespace TL
open PySem L2
section
variable {X : Cx} {S : Type} {B : Bs} {Γ : S → List Sl} {K : PySem.W.Frag} {α β : Type} {R : α → Pd} {a b e : Expr} {pos : Pos}
theorem te_never : PE X e (tE B Γ R (fun _ _ => False)) := ⟨fun _ _ _ _ _ _ ⟨_, _, _, _, h, _⟩ => h.elim⟩
theorem tt_never : PT X e (tT B Γ (fun _ _ => False)) := ⟨fun _ _ _ _ _ _ ⟨_, _, _, _, h, _⟩ => h.elim⟩
def Nn (R : α → Pd) : Prop := ∀ x v F, (R x).p v F → v ≠ .non
theorem nn_int : Nn RInt := fun x v F h z => by rw [z] at h; exact nomatch h
theorem nn_bool : Nn RBool := fun x v F h z => by rw [z] at h; exact nomatch h
theorem nn_str : Nn RStr := fun x v F h z => by rw [z] at h; exact nomatch h
theorem nn_lst : Nn (RLst R) := fun x v F ⟨_, _, h, _⟩ z => by rw [z] at h; exact nomatch h
theorem nn_list : Nn (RList K R) := fun x v F ⟨_, _, h, _⟩ z => by rw [z] at h; exact nomatch h
theorem nn_tup : Nn (RTup K R) := fun x v F ⟨_, _, h, _⟩ z => by rw [z] at h; exact nomatch h
theorem nn_pair {Ra : α → Pd} {Rb : β → Pd} : Nn (RPair K Ra Rb) := fun x v F ⟨_, _, _, h, _⟩ z => by rw [z] at h; exact nomatch h
theorem nn_ins {C : Addr} {fl : α → List (Str × Pd)} : Nn (fun x => RIns C (fl x)) := fun x v F ⟨_, _, _, h, _⟩ z => by rw [z] at h; exact nomatch h
theorem cr_isNo (n : Nn R) : CR X .Is R RNon (fun _ _ => false) := ⟨_, op_isN, OpU.g fun x y v w F H Q hx hy _ q => ⟨hy, q _ (by
  show V.bl _ = V.bl _
  rw [decide_eq_false (n x v F hx)])⟩⟩
theorem cr_notNo (n : Nn R) : CR X .IsNot R RNon (fun _ _ => true) := ⟨_, op_notN, OpU.g fun x y v w F H Q hx hy _ q => ⟨hy, q _ (by
  show V.bl _ = V.bl _
  rw [decide_eq_false (n x v F hx)]; rfl)⟩⟩
theorem cr_isNN : CR X .Is RNon RNon (fun _ _ => true) := ⟨_, op_isN, OpU.g fun x y v w F H Q hx hy _ q => ⟨hy, q _ (by
  have : v = V.non := hx
  subst this; rfl)⟩⟩
theorem cr_notNN : CR X .IsNot RNon RNon (fun _ _ => false) := ⟨_, op_notN, OpU.g fun x y v w F H Q hx hy _ q => ⟨hy, q _ (by
  have : v = V.non := hx
  subst this; rfl)⟩⟩
end
section
open PySem.Spec PyProof.Rows
/-- t * 1, () * n: the tuple itself -/
theorem tuple_mulS (l : Addr) (items : Array Value) (n : Nat) (dd : Option Addr) (sl : Array (Option Value)) (x : Int) (u : Tok) (c0 : (decide (x < -(2 ^ 63)) || decide (x ≥ 2 ^ 63)) = false) (c1 : (items.isEmpty || x == 1) = true) :
    Meets (Builtin.«tuple.__mul__» ⟨[.ref l, .int x u], []⟩) (fun _ R s => s.heap.get? l = some { cls := .type "tuple", dict := dd, data := .seq items n, slots := sl } ∧ R (.ok (.ret (Value.ref l))) s) :=
  .of_wp fun prog w A R s h => by
    obtain ⟨hp, g, d, tk, os⟩ := s
    obtain ⟨hl, h⟩ := h
    have f1 := AutoSeq1.idx_int
    wp_walk using wpAny_loadPart' hl
    repeat (first
      | (refine wpAny_ite_false (decide_eq_false (by rw [c0]; exact Bool.false_ne_true)) ?_; wp_walk using wpAny_loadPart' hl)
      | (refine wpAny_ite_true (decide_eq_true c1) ?_; wp_walk using wpAny_loadPart' hl))
    exact ⟨_, rfl, h⟩
/-- t * 0 -/
theorem tuple_mulZ (l : Addr) (items : Array Value) (n : Nat) (dd : Option Addr) (sl : Array (Option Value)) (x : Int) (u : Tok) (c0 : (decide (x < -(2 ^ 63)) || decide (x ≥ 2 ^ 63)) = false) (c1 : (items.isEmpty || x == 1) = false) (c2 : (decide (x ≤ 0) || items.isEmpty) = true) :
    Meets (Builtin.«tuple.__mul__» ⟨[.ref l, .int x u], []⟩) (fun _ R s => s.heap.get? l = some { cls := .type "tuple", dict := dd, data := .seq items n, slots := sl } ∧
      R (.ok (.ret (Value.ref s.heap.objs.size))) { s with heap := s.heap.push { cls := Value.type "tuple", data := Data.seq #[] }, toks := s.toks }) :=
  .of_wp fun prog w A R s h => by
    obtain ⟨hp, g, d, tk, os⟩ := s
    obtain ⟨hl, h⟩ := h
    have f1 := AutoSeq1.idx_int
    wp_walk using wpAny_loadPart' hl
    repeat (first
      | (refine wpAny_ite_false (decide_eq_false (by rw [c0]; exact Bool.false_ne_true)) ?_; wp_walk using wpAny_loadPart' hl)
      | (refine wpAny_ite_false (decide_eq_false (by rw [c1]; exact Bool.false_ne_true)) ?_; wp_walk using wpAny_loadPart' hl)
      | (refine wpAny_ite_true (decide_eq_true c2) ?_; wp_walk using wpAny_loadPart' hl))
    exact ⟨_, rfl, h⟩
def rRepA (K : PySem.W.Frag) : R2 := fun x y H Q => ∃ l k xs, x = .ref l ∧ y = .int k ∧ SqT K H l xs ∧ -(2 ^ 63) ≤ k ∧ k < 2 ^ 63 ∧ xs.length * k.toNat ≤ 1000000 ∧
  (xs = [] ∨ k = 1 → Q (.ref l) H) ∧ (¬ (xs = [] ∨ k = 1) → ∀ p, H p = none → Q (.ref p) (upd H p (.tup (List.replicate k.toNat xs).flatten)))
theorem op_repA {X : Cx} : OpR X (binaryOp .Mult) (rRepA X.K) := by
  intro pins s σ H x y v u Q I rx ry h
  obtain ⟨l, k, xs, rfl, rfl, hT, h1, h2, hz, q1, q2⟩ := h
  cases rx
  obtain ⟨t, rfl⟩ := ry
  obtain ⟨its, r, ⟨⟨cls, dd, data, sl⟩, ho, hc, n, hd⟩, hs⟩ := I.tuple hT
  simp only at hc hd
  subst hc hd
  have hle : its.length = xs.length := r.length.symm
  have hi : its.toArray.isEmpty = decide (xs = []) := by
    cases its with
    | nil =>
      have : xs = [] := List.eq_nil_of_length_eq_zero hle.symm
      subst this; rfl
    | cons a b =>
      cases xs with
      | nil => cases hle
      | cons c d => rfl
  have c0 : (decide (k < -(2 ^ 63)) || decide (k ≥ 2 ^ 63)) = false := by
    rw [decide_eq_false (by omega), decide_eq_false (by omega)] <;> rfl
  have hsz0 : its.toArray.size = xs.length := by rw [List.size_toArray, hle]
  by_cases hw : xs = [] ∨ k = 1
  · have c1 : (its.toArray.isEmpty || k == 1) = true := by
      rw [hi, Bool.or_eq_true, decide_eq_true_eq, beq_iff_eq]
      exact hw
    refine wpAny_binaryOp_repeat_ref (T := "tuple") (U := "int") (by decide) ⟨_, ho, rfl⟩ (fun s' => typeIs_int s' k t) noFill_tuple_mul F.fills_int_mul F.slot_int_rmul repeat_tuple F.slot_int_index.lookup
      (call_meets F.slot_int_rmul (typeIs_int s k t) F.entry_int_rmul (F.args_int_rmul_2 _ _) (int_rmul_tuple k t l its.toArray n dd sl)
        ⟨ho, rfl, ⟨_, ho, rfl⟩, call_meets F.slot_tuple_mul ⟨_, ho, rfl⟩ F.entry_tuple_mul (F.args_tuple_mul_2 _ _) (tuple_mulS l its.toArray n dd sl k t c0 c1) ⟨ho, ?_⟩⟩)
    exact ⟨.ref l, H, I, rfl, q1 hw⟩
  · have hne : xs ≠ [] := fun e => hw (.inl e)
    have hk1 : k ≠ 1 := fun e => hw (.inr e)
    have c1 : (its.toArray.isEmpty || k == 1) = false := by
      rw [hi, decide_eq_false hne, Bool.false_or]
      exact beq_eq_false_iff_ne.mpr hk1
    have flen : (List.replicate k.toNat its).flatten.length ≤ sizeLine := by
      rw [PyProof.Rows.lm_len_rep_flat, hle, Nat.mul_comm]
      exact Nat.le_trans hz (by decide)
    by_cases hk : k ≤ 0
    · have c2 : (decide (k ≤ 0) || its.toArray.isEmpty) = true := by
        rw [decide_eq_true hk]; rfl
      refine wpAny_binaryOp_repeat_ref (T := "tuple") (U := "int") (by decide) ⟨_, ho, rfl⟩ (fun s' => typeIs_int s' k t) noFill_tuple_mul F.fills_int_mul F.slot_int_rmul repeat_tuple F.slot_int_index.lookup
        (call_meets F.slot_int_rmul (typeIs_int s k t) F.entry_int_rmul (F.args_int_rmul_2 _ _) (int_rmul_tuple k t l its.toArray n dd sl)
          ⟨ho, rfl, ⟨_, ho, rfl⟩, call_meets F.slot_tuple_mul ⟨_, ho, rfl⟩ F.entry_tuple_mul (F.args_tuple_mul_2 _ _) (tuple_mulZ l its.toArray n dd sl k t c0 c1 c2) ⟨ho, ?_⟩⟩)
      have e0 : k.toNat = 0 := Int.toNat_eq_zero.mpr hk
      refine ⟨.ref s.heap.objs.size, _, I.laid (t' := s.toks) (o := .tup (List.replicate k.toNat xs).flatten) (fun b ob q => Heap.get?_push_of_some _ q) (Nat.le_refl _) ?_, rfl, q2 hw _ (I.hok.fresh (Nat.le_refl _))⟩
      rw [e0]
      exact ⟨Nat.zero_le _, _, .nil, IsTup.new _ _⟩
    · have c2 : (decide (k ≤ 0) || its.toArray.isEmpty) = false := by
        rw [hi, decide_eq_false hk, decide_eq_false hne]; rfl
      have hm : ((its.toArray.size : Nat) : Int) * k ≤ 1000000 := by
        rw [hsz0]
        have : ((xs.length * k.toNat : Nat) : Int) = (xs.length : Int) * k := by
          rw [Int.natCast_mul, Int.toNat_of_nonneg (by omega)]
        omega
      have c4 : Builtin.Tuple.tupleTooMany (((its.toArray.size : Nat) : Int) * k) = false := by
        unfold Builtin.Tuple.tupleTooMany
        rw [sizeLine_eq]
        exact decide_eq_false (by omega)
      refine wpAny_binaryOp_repeat_ref (T := "tuple") (U := "int") (by decide) ⟨_, ho, rfl⟩ (fun s' => typeIs_int s' k t) noFill_tuple_mul F.fills_int_mul F.slot_int_rmul repeat_tuple F.slot_int_index.lookup
        (call_meets F.slot_int_rmul (typeIs_int s k t) F.entry_int_rmul (F.args_int_rmul_2 _ _) (int_rmul_tuple k t l its.toArray n dd sl)
          ⟨ho, rfl, ⟨_, ho, rfl⟩, call_meets F.slot_tuple_mul ⟨_, ho, rfl⟩ F.entry_tuple_mul (F.args_tuple_mul_2 _ _) (tuple_mulW l its.toArray n dd sl k t c0 c1 c2 (by omega) c4 (by rw [size_rep, List.size_toArray]; exact flen)) ⟨ho, ?_⟩⟩)
      rw [size_rep]
      refine ⟨.ref s.heap.objs.size, _, I.laid (t' := s.toks) (o := .tup (List.replicate k.toNat xs).flatten) (fun b ob q => Heap.get?_push_of_some _ q) (Nat.le_refl _) ?_, rfl, q2 hw _ (I.hok.fresh (Nat.le_refl _))⟩
      exact ⟨by rw [PyProof.Rows.lm_len_rep_flat, Nat.mul_comm]; exact Nat.le_trans hz (by decide), _, r.rep k.toNat, IsTup.new _ _⟩
end
section
variable {X : Cx} {S : Type} {B : Bs} {Γ : S → List Sl} {K : PySem.W.Frag} {α β : Type} {R : α → Pd} {a b e : Expr} {pos : Pos}
theorem te_repT {ma : S → (List α → S → Prop) → Prop} {mb : S → (Int → S → Prop) → Prop} (ha : PE X a (tE B Γ (RTup K R) ma)) (hb : PE X b (tE B Γ RInt mb)) (hK : X.K = K := by rfl) :
    PE X (.BinOp a .Mult b pos) (tE B Γ (RTup K R) (fun s K => ma s fun x s1 => mb s1 fun y s2 => (-(2 ^ 63) ≤ y ∧ y < 2 ^ 63 ∧ x.length * y.toNat ≤ 1000000) ∧ K (pyRep x y) s2)) := by
  subst hK
  refine pe_imp (pe_op op_repA ha hb) fun σ H Q ⟨s, F, K', A, hm, k⟩ => ⟨s, F, _, A, hm, fun xs s1 v F1 H1 h1 A1 e1 r1 => ⟨s1, F1, _, A1, h1, fun y s2 w F2 H2 ⟨hc, h2⟩ A2 e2 r2 => ?_⟩⟩
  obtain ⟨q1, vs, rfl, hq, av⟩ := r1
  have hq := seqT_mono e2 hq
  have av := av.mono e2
  rw [show w = V.int y from r2]
  refine ⟨q1, y, vs, rfl, rfl, seqT_mono A2.sub hq, hc.1, hc.2.1, by rw [av.len]; exact hc.2.2, fun z => ?_, fun _ p np => ?_⟩
  · have ep : pyRep xs y = xs := by
      rcases z with z | z
      · have : xs = [] := List.eq_nil_of_length_eq_zero (by rw [← av.len, z]; rfl)
        subst this
        unfold pyRep
        exact List.flatten_eq_nil_iff.mpr fun l hl => (List.mem_replicate.mp hl).2
      · subst z
        unfold pyRep
        show (List.replicate 1 xs).flatten = xs
        simp
    refine k _ s2 (.ref q1) F2 H2 h2 A2 (e1.trans e2) ?_
    rw [ep]
    exact ⟨q1, vs, rfl, hq, av⟩
  · obtain ⟨A3, e3⟩ := A2.lay (o := .tup (List.replicate y.toNat vs).flatten) np
    exact k _ s2 _ _ _ h2 A3 ((e1.trans e2).trans e3) ⟨p, _, rfl, SqT.of upd_same, (av.rep _).mono e3⟩
end
theorem units65 {k : Nat} {A : Around} (r : Room k A) : A.units + 65 < cLine := by have := r.un; omega
/-- what is gone on with -/
def mB {α S : Type} (f : (α → S → Prop) → Prop) (k : α → S → Prop) : Prop := f k
theorem mB_of {α S : Type} {f : (α → S → Prop) → Prop} {k : α → S → Prop} (P : α → S → Prop) (h : ∀ K : α → S → Prop, (∀ v s, P v s → K v s) → f K) (hk : ∀ v s, P v s → k v s) : mB f k := h k hk
theorem memB_true {α : Type} [DecidableEq α] {x : α} {xs : List α} (h : x ∈ xs) : memB x xs = true := decide_eq_true h
theorem memB_iff {α : Type} [DecidableEq α] {x : α} {xs : List α} : memB x xs = true ↔ x ∈ xs := decide_eq_true_iff
theorem kit_self {K : PySem.W.Frag} {C : Addr} : PySem.W.kitOne K (.ref C) (.ref C) = some true := by
  unfold PySem.W.kitOne
  rw [if_pos]
  show (Value.ref C == Value.ref C) = true
  exact beq_self_eq_true (α := Value) _
end TL
namespace TL
open PySem L2
section
variable {X : Cx} {S : Type} {B : Bs} {Γ : S → List Sl} {K : PySem.W.Frag} {α β γ δ ι ι' κ : Type} {R Ra : α → Pd} {Rb : β → Pd} {Rc : γ → Pd} {Rd' : δ → Pd} {As : ι → List Pd} {a b e c : Expr} {es : List Expr} {pos p cpos apos pn pc : Pos} {x xn : Str} {mr : S → (ι → S → Prop) → Prop}
variable {m : S → (Option α → S → Prop) → Prop}
/-! ### what may be None -/
theorem flat_optI : Flat (ROpt RInt) (fun o : Option Int => match o with | none => V.non | some i => V.int i) where
  rep := fun x v F h => by
    cases x with
    | none => exact h
    | some i => exact h.2
  inj := fun x y h => by
    cases x <;> cases y
    · rfl
    · cases h
    · cases h
    · cases h; rfl
  sc := fun x y => by cases x <;> cases y <;> rfl
/-- it is there -/
theorem te_unopt (h : PE X e (tE B Γ (ROpt R) m)) : PE X e (tE B Γ R (fun s K => m s fun x s1 => ∃ y, x = some y ∧ K y s1)) :=
  pe_imp h fun σ H Q ⟨s, F, K', A, hm, k⟩ => ⟨s, F, _, A, hm, fun x s1 v F1 H1 ⟨y, hy, q⟩ A1 e1 r1 => by
    subst hy
    exact k y s1 v F1 H1 q A1 e1 r1.2⟩
/-- isinstance, the kind one of some with the same answer -/
def TyB {α : Type} (K : PySem.W.Frag) (R : α → Pd) (u : Value) (b : Bool) : Prop := ∀ x v F H, (R x).p v F → Same F H → ∃ t, TyX K H v t ∧ PySem.W.kitOne K t u = some b
theorem tyb_opt {u t : Value} {b : Bool} (h : TyR K R t) (h1 : PySem.W.kitOne K t u = some b) (h2 : PySem.W.kitOne K (.type "NoneType") u = some b) : TyB K (ROpt R) u b := fun x v F H hx e => by
  cases x with
  | none => exact ⟨_, ty_non () v F H hx e, h2⟩
  | some y => exact ⟨t, h y v F H hx.2 e, h1⟩
theorem te_isiB {m : S → (α → S → Prop) → Prop} {u : Value} {b : Bool} (P : BP X "isinstance" (.builtin "isinstance")) (ty : TyB X.K R u b) (he : PE X e (tE B Γ R m)) (hc : PCl X c u)
    (hs : starEach [e, c] X.env = (false, eval e X.env) :: starEach [c] X.env := by rfl) (hs2 : starEach [c] X.env = (false, eval c X.env) :: starEach [] X.env := by rfl) (hpl : (backTo pos (starEach [c] X.env)).any (·.1) = false := by rfl) :
    PE X (.Call (.Name "isinstance" p) [e, c] [] pos) (tE B Γ RBool (fun s K => m s fun _ s1 => K b s1)) := by
  obtain ⟨v, hc, hv⟩ := hc
  exact pe_imp (pe_callB call_isi P.g P.m P.v (pa_cons he (pa_cons hc pa_nil hs2) hs) P.n P.d hs hpl) fun σ H Q ⟨s, F, K', A, hm, k⟩ => ⟨s, F, _, A, hm, fun x s1 w F1 H1 h1 A1 e1 r1 => by
    obtain ⟨t, ht, hk⟩ := ty x w F1 H1 r1 A1.sub
    exact ⟨w, v, t, u, b, rfl, hv, ht, hk, k b s1 (.bl b) F1 H1 h1 A1 e1 rfl⟩⟩
/-! ### tuples of unlike items -/
def RTn (K : PySem.W.Frag) (As : ι → List Pd) (y : ι) : Pd := ⟨fun v F => ∃ a vs, v = .ref a ∧ SqT K F a vs ∧ AllP (As y) vs F, fun _ _ _ e ⟨a, vs, h1, h2, h3⟩ => ⟨a, vs, h1, seqT_mono e h2, h3.mono e⟩⟩
theorem te_tupN {x1} (h : PA X es (tA B Γ As mr)) (hn : ∀ y, (As y).length ≤ 1000 := by intro _; show _ ≤ 1000; decide) : PE X (.Tuple es x1 pos) (tE B Γ (RTn K As) mr) :=
  pe_imp (pe_tup h) fun σ H Q ⟨s, F, K', A, hm, k⟩ => ⟨s, F, _, A, hm, fun y s1 vs F1 H1 q1 A1 e1 r1 => ⟨by rw [r1.len]; exact smallLen (Nat.le_trans (hn y) (by decide)), fun p np => by
    obtain ⟨A2, e2⟩ := A1.lay (o := .tup vs) np
    exact k y s1 (.ref p) _ _ q1 A2 (e1.trans e2) ⟨p, vs, rfl, SqT.of upd_same, r1.mono e2⟩⟩⟩
theorem tg_tup3 (i j l : Nat) : Tg (gTup K 3 (gCons (gName i) (gCons (gName j) (gCons (gName l) gNil)))) (RTn K (acons Ra (acons Rb (acons Rc anil)))) [i, j, l] (fun Γ x => ((Γ.set i (.im (Ra x.1))).set j (.im (Rb x.2.1))).set l (.im (Rc x.2.2.1))) := ⟨fun {B Γ σ F H x v Q} A hr k => by
  obtain ⟨q, vs, rfl, h2, h3⟩ := hr
  match vs, h3 with
  | [v1, v2, v3], ⟨r1, r2, r3, _⟩ =>
    refine ⟨q, _, rfl, seqT_mono A.sub h2, rfl, v1, [v2, v3], rfl, v2, [v3], rfl, v3, [], rfl, rfl, ?_⟩
    exact k _ (((A.setIm r1).setIm r2).setIm r3) fun vs hv => by rw [wipe_set (hv l (by simp)), wipe_set (hv j (by simp)), wipe_set (hv i (by simp))]⟩
theorem tg_tup4 (i j l o : Nat) : Tg (gTup K 4 (gCons (gName i) (gCons (gName j) (gCons (gName l) (gCons (gName o) gNil))))) (RTn K (acons Ra (acons Rb (acons Rc (acons Rd' anil))))) [i, j, l, o] (fun Γ x => (((Γ.set i (.im (Ra x.1))).set j (.im (Rb x.2.1))).set l (.im (Rc x.2.2.1))).set o (.im (Rd' x.2.2.2.1))) := ⟨fun {B Γ σ F H x v Q} A hr k => by
  obtain ⟨q, vs, rfl, h2, h3⟩ := hr
  match vs, h3 with
  | [v1, v2, v3, v4], ⟨r1, r2, r3, r4, _⟩ =>
    refine ⟨q, _, rfl, seqT_mono A.sub h2, rfl, v1, [v2, v3, v4], rfl, v2, [v3, v4], rfl, v3, [v4], rfl, v4, [], rfl, rfl, ?_⟩
    exact k _ ((((A.setIm r1).setIm r2).setIm r3).setIm r4) fun vs hv => by rw [wipe_set (hv o (by simp)), wipe_set (hv l (by simp)), wipe_set (hv j (by simp)), wipe_set (hv i (by simp))]⟩
/-! ### max(a, b), min(a, b) -/
theorem te_max2 {ma mb : S → (Int → S → Prop) → Prop} (P : BP X "max" (.builtin "max")) (ha : PE X a (tE B Γ RInt ma)) (hb : PE X b (tE B Γ RInt mb)) (hc : X.calm = true := by rfl) (hs : starEach [a, b] X.env = (false, eval a X.env) :: starEach [b] X.env := by rfl) (hs2 : starEach [b] X.env = (false, eval b X.env) :: starEach [] X.env := by rfl) (hpl : (backTo pos (starEach [b] X.env)).any (·.1) = false := by rfl) :
    PE X (.Call (.Name "max" p) [a, b] [] pos) (tE B Γ RInt (fun s K => ma s fun x s1 => mb s1 fun y s2 => K (max x y) s2)) :=
  pe_imp (pe_callB (call_max2 hc) P.g P.m P.v (pa_cons ha (pa_cons hb pa_nil hs2) hs) P.n P.d hs hpl) fun σ H Q ⟨s, F, K', A, hm, k⟩ => ⟨s, F, _, A, hm, fun x s1 v F1 H1 h1 A1 e1 r1 => ⟨s1, F1, _, A1, h1, fun y s2 w F2 H2 h2 A2 e2 r2 => ⟨x, y, by rw [show v = V.int x from r1, show w = V.int y from r2], k (max x y) s2 _ F2 H2 h2 A2 (e1.trans e2) (by
    show V.int _ = V.int _
    congr 1
    split <;> omega)⟩⟩⟩
theorem te_min2 {ma mb : S → (Int → S → Prop) → Prop} (P : BP X "min" (.builtin "min")) (ha : PE X a (tE B Γ RInt ma)) (hb : PE X b (tE B Γ RInt mb)) (hc : X.calm = true := by rfl) (hs : starEach [a, b] X.env = (false, eval a X.env) :: starEach [b] X.env := by rfl) (hs2 : starEach [b] X.env = (false, eval b X.env) :: starEach [] X.env := by rfl) (hpl : (backTo pos (starEach [b] X.env)).any (·.1) = false := by rfl) :
    PE X (.Call (.Name "min" p) [a, b] [] pos) (tE B Γ RInt (fun s K => ma s fun x s1 => mb s1 fun y s2 => K (min x y) s2)) :=
  pe_imp (pe_callB (call_min2 hc) P.g P.m P.v (pa_cons ha (pa_cons hb pa_nil hs2) hs) P.n P.d hs hpl) fun σ H Q ⟨s, F, K', A, hm, k⟩ => ⟨s, F, _, A, hm, fun x s1 v F1 H1 h1 A1 e1 r1 => ⟨s1, F1, _, A1, h1, fun y s2 w F2 H2 h2 A2 e2 r2 => ⟨x, y, by rw [show v = V.int x from r1, show w = V.int y from r2], k (min x y) s2 _ F2 H2 h2 A2 (e1.trans e2) (by
    show V.int _ = V.int _
    congr 1
    split <;> omega)⟩⟩⟩
/-! ### min of a list of data -/
def leastD (d : α → PyData) : List α → Option α
  | [] => none
  | x :: xs => some (xs.foldl (fun a y => if PySem.W.dataLt (d y) (d a) then y else a) x)
theorem leastD_mem {d : α → PyData} : ∀ {xs : List α} {y : α}, leastD d xs = some y → y ∈ xs
  | x :: xs, y, h => by
    have go : ∀ (l : List α) (a : α), (∀ z ∈ l, z ∈ x :: xs) → a ∈ x :: xs → l.foldl (fun a y => if PySem.W.dataLt (d y) (d a) then y else a) a ∈ x :: xs := by
      intro l
      induction l with
      | nil => intro a _ h; exact h
      | cons z l ih =>
        intro a hl ha
        rw [List.foldl_cons]
        refine ih _ (fun q hq => hl q (List.mem_cons_of_mem _ hq)) ?_
        split
        · exact hl z List.mem_cons_self
        · exact ha
    cases h
    exact go xs x (fun z hz => List.mem_cons_of_mem _ hz) List.mem_cons_self
theorem leastD_minD {d : α → PyData} (x : α) (xs : List α) : d (xs.foldl (fun a y => if PySem.W.dataLt (d y) (d a) then y else a) x) = PySem.W.minD (d x) (xs.map d) := by
  unfold PySem.W.minD
  induction xs generalizing x with
  | nil => rfl
  | cons y xs ih =>
    rw [List.map_cons, List.foldl_cons, List.foldl_cons, ih]
    congr 1
    split <;> rfl
theorem vals_at : ∀ {ws : List V} {its : List Value} {i : Nat} {v : Value}, Vals ws its → its[i]? = some v → ∃ w, ws[i]? = some w ∧ RelV w v
  | _, _, i, v, .nil, h => by simp at h
  | _, _, 0, v, .cons r _, h => by simp at h; subst h; exact ⟨_, rfl, r⟩
  | _, _, i + 1, v, .cons _ t, h => by
    obtain ⟨w, h1, h2⟩ := vals_at (i := i) t (by simpa using h)
    exact ⟨w, by simpa using h1, h2⟩
theorem allR_ix {F : Hp} : ∀ {xs : List α} {vs : List V} {i : Nat} {v : V}, AllR R xs vs F → vs[i]? = some v → ∃ x, xs[i]? = some x ∧ (R x).p v F
  | [], [], i, v, _, h => by simp at h
  | x :: xs, w :: vs, 0, v, a, h => by simp at h; subst h; exact ⟨x, rfl, a.1⟩
  | x :: xs, w :: vs, i + 1, v, a, h => by
    obtain ⟨y, h1, h2⟩ := allR_ix (i := i) a.2 (by simpa using h)
    exact ⟨y, by simpa using h1, h2⟩
  | [], _ :: _, i, v, a, _ => a.elim
  | _ :: _, [], i, v, a, _ => a.elim
theorem te_minD {ma : S → (List α → S → Prop) → Prop} {d : α → PyData} {n : Nat} (P : BP X "min" (.builtin "min")) (ha : PE X a (tE B Γ (RList K R) ma)) (h : Dat K R d n) (al : ∀ x y : α, PySem.W.alike (d x) (d y) = true) (nn : ∀ x, d x ≠ .none) (hu : X.A.units + 65 < cLine) (hn : n ≤ 50 := by decide) (hK : X.K = K := by rfl) (hc : X.calm = true := by rfl)
    (hs : starEach [a] X.env = (false, eval a X.env) :: starEach [] X.env := by rfl) (hpl : (backTo pos (starEach [] X.env)).any (·.1) = false := by rfl) :
    PE X (.Call (.Name "min" p) [a] [] pos) (tE B Γ R (fun s K => ma s fun xs s1 => ∃ y, leastD d xs = some y ∧ K y s1)) := by
  subst hK
  let r : List V → Hp → VK → Prop := fun vs H Q => ∃ (q : Addr) (x : α) (xs : List α) (ws : List V) (F : Hp), vs = [V.ref q] ∧ SqL X.K H q ws ∧ AllR R (x :: xs) ws F ∧ Same F H ∧ ∀ y v, leastD d (x :: xs) = some y → (R y).p v F → Q v H
  have hr : CallR X (.builtin "min") r := by
    intro pins s σ H vs us Q I rv h'
    obtain ⟨q, x, xs, ws, F, rfl, hq, av, e, k⟩ := h'
    obtain ⟨its, rw', hl, _⟩ := I.list hq
    rw [Vals.ref1 rv]
    have dp : DpAll X.K H ws ((x :: xs).map d) := dpAllH rfl h e av
    obtain ⟨as, rd⟩ := Dp.readsAll I ((x :: xs).map d) ws its dp rw'
    have dep : PyData.depthAll ((x :: xs).map d) ≤ n := depAll h.dep _
    refine PySem.W.min_list_data (I.ok.hd hc) hl.isList (x := d x) (xs := xs.map d) rd ⟨fun a ha b hb => ?_, fun a ha => ?_⟩ (by have : PyData.depthAll (d x :: xs.map d) ≤ n := dep; show X.A.units + 1 + PyData.depthAll (d x :: xs.map d) < cLine; omega) fun i v h' tk bs hv hrd hk => ?_
    · obtain ⟨a', _, rfl⟩ := List.mem_map.mp (show a ∈ (x :: xs).map d from ha)
      obtain ⟨b', _, rfl⟩ := List.mem_map.mp (show b ∈ (x :: xs).map d from hb)
      exact al _ _
    · obtain ⟨a', _, rfl⟩ := List.mem_map.mp (show a ∈ (x :: xs).map d from ha)
      exact nn _
    · obtain ⟨wv, hw, rwv⟩ := vals_at (i := i) (v := v) rw' (by rw [← List.getElem?_toArray]; exact hv)
      obtain ⟨y, hy, ry⟩ := allR_ix av hw
      obtain ⟨bs2, rd2⟩ := Dp.reads I (d y) wv v (Dp.same e (h.dp y wv F ry)) rwv
      have ed : d y = PySem.W.minD (d x) (xs.map d) := SeqAt.Reads.unique _ _ v _ _ (h.lay y) (PySem.W.reads_keeps hk rd2) hrd
      have ey : y = xs.foldl (fun a y => if PySem.W.dataLt (d y) (d a) then y else a) x := by
        rw [← leastD_minD] at ed
        refine (h.inj _ _).mp ?_
        rw [ed]
        exact (h.inj _ _).mpr rfl
      exact ⟨wv, H, I.kept hk, rwv, k y wv (by rw [ey]; rfl) ry⟩
  exact pe_imp (pe_bf P hr (pa_cons ha pa_nil hs) hs hpl) fun σ H Q ⟨s, F, K', A, hm, k⟩ => ⟨s, F, _, A, hm, fun xs s1 v F1 H1 ⟨y, hy, q⟩ A1 e1 ⟨p1, ws, h1, h2, h3⟩ => by
    subst h1
    cases xs with
    | nil => cases hy
    | cons x xs =>
      exact ⟨p1, x, xs, ws, F1, rfl, seqL_mono A1.sub h2, h3, A1.sub, fun y' v' hy' ry' => by
        rw [hy] at hy'
        cases hy'
        exact k y s1 v' F1 H1 q A1 e1 ry'⟩⟩
end
end TL
namespace TL
open PySem L2
/-! ### calls with keywords -/
/-- the parameters' values out of the written ones and the keywords', by places -/
def permG (idx : List Nat) {α : Type} (us ws : List α) : List α := idx.filterMap fun i => (us ++ ws)[i]?
theorem vals_none {ws : List V} {its : List Value} {i : Nat} (r : Vals ws its) (h : its[i]? = none) : ws[i]? = none := by
  rw [List.getElem?_eq_none_iff] at h ⊢
  rw [r.length]; exact h
theorem permG_rel (idx : List Nat) {vs zs : List V} {us ws : List Value} (r : Vals vs us) (rz : Vals zs ws) : Vals (permG idx vs zs) (permG idx us ws) := by
  have ra := r.append rz
  unfold permG
  induction idx with
  | nil => exact .nil
  | cons i idx ih =>
    rw [List.filterMap_cons, List.filterMap_cons]
    cases e : (us ++ ws)[i]? with
    | none =>
      rw [vals_none ra e]
      exact ih
    | some u =>
      obtain ⟨w, hw, rw'⟩ := vals_at ra e
      rw [hw]
      exact .cons rw' ih
theorem kbn_of {K : PySem.W.Frag} {x qual : Str} {st : Stmt} {f : Addr} {fd : FuncData} {ps ks : List Str} (F : Fun K x qual st f fd) (n : Nat) (idx : List Nat)
    (h : ∀ (kV doc pm : Value) (an : Option Addr) (cdv ct : Value) (us ws : List Value), us.length = n → ws.length = ks.length → bindArgs (PySem.W.fnOf x qual (defArgs st) (defBody st) (defScope st) .none kV doc pm an cdv ct) ⟨us, ks.zip ws⟩ = pure (ps.zip (permG idx us ws))) :
    KBn K fd ps n ks (permG idx) (permG idx) := by
  obtain ⟨oc, od, kV, doc, pm, an, cdv, ct, osl, rfl, lk, hcd⟩ := F.ex
  exact ⟨fun s us ws _ l1 l2 => .of_eq (h kV doc pm an cdv ct us ws l1 l2), fun r rz => permG_rel idx r rz⟩

section
variable {X : Cx} {S : Type} {B : Bs} {Γ : S → List Sl} {α β ι ι' κ : Type} {R : α → Pd} {Rb : β → Pd} {As : ι → List Pd} {As' : ι' → List Pd} {Aw : κ → List Pd} {e o : Expr} {es : List Expr} {kws : List Keyword} {pos p apos kpos : Pos} {x mn : Str} {nm : Option Str} {k n : Nat} {f C : Addr} {fd : FuncData} {ps ks : List Str} {idx : List Nat}
variable {m : S → (α → S → Prop) → Prop} {mr : S → (ι → S → Prop) → Prop} {mk : S → (ι' → S → Prop) → Prop}
theorem tk_nil : PK X [] (tA B Γ anil (fun s K => K () s)) := ⟨fun pos pins s σ H Q I ⟨u, F, K', A, hm, k⟩ => pk_nil.run pos pins s σ H Q I (k () u [] F H hm A (Same.refl F) trivial)⟩
theorem pk_imp {t t' : TA} (h : PK X kws t) (i : ∀ σ H Q, t' σ H Q → t σ H Q) : PK X kws t' := ⟨fun pos pins s σ H Q I q => h.run pos pins s σ H Q I (i _ _ _ q)⟩
theorem tk_cons (h : PE X e (tE B Γ R m)) (hr : PK X kws (tA B Γ As mr)) : PK X (⟨nm, e, kpos⟩ :: kws) (tA B Γ (acons R As) (fun s K => m s fun x s1 => mr s1 fun y s2 => K (x, y) s2)) :=
  pk_imp (pk_cons h hr) fun σ H Q ⟨s, F, K', A, hm, k⟩ => ⟨s, F, _, A, hm, fun x s1 v F1 H1 h1 A1 e1 r1 => ⟨s1, F1, _, A1, h1, fun y s2 vs F2 H2 h2 A2 e2 r2 => k (x, y) s2 (v :: vs) F2 H2 h2 A2 (e1.trans e2) ⟨(R x).mono _ _ _ e2 r1, r2⟩⟩⟩
/-- the values are in the parameters' order what the def asks -/
def Ord (As : ι → List Pd) (As' : ι' → List Pd) (Aw : κ → List Pd) (φ : ι → ι' → κ) (idx : List Nat) : Prop := ∀ y z vs ws F, AllP (As y) vs F → AllP (As' z) ws F → AllP (Aw (φ y z)) (permG idx vs ws) F
theorem callK_p {mf : κ → (β → Prop) → Prop} {φ : ι → ι' → κ} {E : XK} {j : Nat} (hO : Ord As As' Aw φ idx) (hn : ∀ y, (As y).length = n) (hj : ∀ z, (As' z).length = j) {σ : L2.St} {H : Hp} {Q : VK}
    (q : tE B Γ Rb (fun s K => mr s fun y s1 => mk s1 fun z s2 => mf (φ y z) fun r => K r s2) σ H Q) : tCallN n j (spP Aw Rb mf) (permG idx) E (tA B Γ As mr) (tA B Γ As' mk) σ H Q := by
  obtain ⟨s, F, K', A, hm, k⟩ := q
  exact ⟨s, F, _, A, hm, fun y s1 vs F1 H1 h1 A1 e1 r1 => ⟨s1, F1, _, A1, h1, fun z s2 ws F2 H2 h2 A2 e2 r2 => ⟨by rw [r1.len]; exact hn y, by rw [r2.len]; exact hj z, φ y z, F2, _, hO y z vs ws F2 (r1.mono e2) r2, A2.sub, h2, fun r v F' H' kr rv eF eH sb nw => k r s2 v F' H' kr (A2.grow eF eH sb nw) ((e1.trans e2).trans eF) rv⟩⟩⟩
theorem pe_callN0 {CX : CXT} {sp : Sp} {E : XK} {tk : TA} {g : List Value → List Value → List Value} {gV : List V → List V → List V} (F : FnOk X.prog X.w X.K X.mg X.base CX k f fd ps sp) (hr : Room k X.A) (hg : Gl X x) (hm : X.mg x = some (.ref f)) (hk : PySem.W.keepIn X.K (.ref f) = true) (hb : KBn X.K fd ps 0 ks g gV) (hx : Passes CX X E)
    (hkw : PK X kws tk) (hall : (backToKw pos (keywordEach kws X.env)).all (·.1.isSome) = true := by rfl) (hks : (backToKw pos (keywordEach kws X.env)).filterMap (·.1) = ks := by rfl)
    (hdb : (x == ("__debug__" : Str)) = false := by decide)
    (hpl : ((backTo pos (starEach [] X.env)).any (·.1) || (backToKw pos (keywordEach kws X.env)).any (·.1.isNone)) = false := by rfl) :
    PE X (.Call (.Name x p) [] kws pos) (tCallN 0 ks.length sp gV E tNil tk) := by
  refine ⟨fun pins s σ H Q I h => ?_⟩
  refine wpAny_Call_Name_kw (ld_glob I hg hm ?_ hdb)
  refine PySem.W.callWith_KW0 (h₀ := X.base) I.ok.mod.kin hk hall ?_ hpl
  refine thn (hkw.run pos pins s σ H _ I h) fun ws s2 ⟨zs, H2, I2, rz, l1, l2, q2⟩ => ⟨I2.kIn, ?_⟩
  rw [hks]
  exact run_fnN F hr hb hx I2 .nil rz rfl l2 q2
/-- f(k = e, ..) -/
theorem te_callK0 {mf : κ → (β → Prop) → Prop} (φ : ι' → κ) (F : FnOk X.prog X.w X.K X.mg X.base CX0 k f fd ps (spP Aw Rb mf)) (hr : Room k X.A) (hm : X.mg x = some (.ref f)) (hk : PySem.W.keepIn X.K (.ref f) = true) (hb : KBn X.K fd ps 0 ks (permG idx) (permG idx)) (hkw : PK X kws (tA B Γ As' mk))
    (hO : Ord anil As' Aw (fun _ z => φ z) idx) (hj : ∀ z, (As' z).length = ks.length := by intro _; rfl) (hg : Gl X x := by rfl) (hdb : (x == ("__debug__" : Str)) = false := by decide)
    (hall : (backToKw pos (keywordEach kws X.env)).all (·.1.isSome) = true := by rfl) (hks : (backToKw pos (keywordEach kws X.env)).filterMap (·.1) = ks := by rfl) (hpl : ((backTo pos (starEach [] X.env)).any (·.1) || (backToKw pos (keywordEach kws X.env)).any (·.1.isNone)) = false := by rfl) :
    PE X (.Call (.Name x p) [] kws pos) (tE B Γ Rb (fun s K => mk s fun z s1 => mf (φ z) fun r => K r s1)) :=
  pe_imp (pe_callN0 F hr hg hm hk hb (pass0 (X := X)) hkw hall hks hdb hpl) fun σ H Q q => by
    obtain ⟨s, F, K', A, hm, k⟩ := q
    exact ⟨s, F, _, A, hm, fun z s1 ws F1 H1 h1 A1 e1 r1 => ⟨rfl, by rw [r1.len]; exact hj z, φ z, F1, _, hO () z [] ws F1 trivial r1, A1.sub, h1, fun r v F' H' kr rv eF eH sb nw => k r s1 v F' H' kr (A1.grow eF eH sb nw) (e1.trans eF) rv⟩⟩
/-- f(e, .., k = e, ..) -/
theorem te_callK {mf : κ → (β → Prop) → Prop} (φ : ι → ι' → κ) (F : FnOk X.prog X.w X.K X.mg X.base CX0 k f fd ps (spP Aw Rb mf)) (hr : Room k X.A) (hm : X.mg x = some (.ref f)) (hk : PySem.W.keepIn X.K (.ref f) = true) (hb : KBn X.K fd ps n ks (permG idx) (permG idx)) (ha : PA X (e :: es) (tA B Γ As mr)) (hkw : PK X kws (tA B Γ As' mk))
    (hO : Ord As As' Aw φ idx) (hn : ∀ y, (As y).length = n := by intro _; rfl) (hj : ∀ z, (As' z).length = ks.length := by intro _; rfl) (hg : Gl X x := by rfl) (hdb : (x == ("__debug__" : Str)) = false := by decide)
    (hall : (backToKw pos (keywordEach kws X.env)).all (·.1.isSome) = true := by rfl) (hks : (backToKw pos (keywordEach kws X.env)).filterMap (·.1) = ks := by rfl) (he : starEach (e :: es) X.env = (false, eval e X.env) :: starEach es X.env := by rfl) (hpl : ((backTo pos (starEach (e :: es) X.env)).any (·.1) || (backToKw pos (keywordEach kws X.env)).any (·.1.isNone)) = false := by rfl) :
    PE X (.Call (.Name x p) (e :: es) kws pos) (tE B Γ Rb (fun s K => mr s fun y s1 => mk s1 fun z s2 => mf (φ y z) fun r => K r s2)) :=
  pe_imp (pe_callN F hr hg hm hk hb (pass0 (X := X)) ha hkw hall hks hdb he hpl) fun σ H Q q => callK_p hO hn hj q

theorem te_methK0 {mf : κ → (β → Prop) → Prop} {pl : Sem Bool} (φ : α → ι' → κ) (hI : InsR R C mn) (ho : PE X o (tE B Γ R m)) (c : Cls X.K C) (hm : Meth X.K C mn f) (F : FnOk X.prog X.w X.K X.mg X.base CX0 k f fd ps (spP Aw Rb mf)) (hr : Room k X.A) (hb : KBn X.K fd ps 1 ks (permG idx) (permG idx)) (hkw : PK X kws (tA B Γ As' mk))
    (hO : ∀ x z v ws F, (R x).p v F → AllP (As' z) ws F → AllP (Aw (φ x z)) (permG idx [v] ws) F) (hj : ∀ z, (As' z).length = ks.length := by intro _; rfl)
    (hall : (backToKw pos (keywordEach kws X.env)).all (·.1.isSome) = true := by rfl) (hks : (backToKw pos (keywordEach kws X.env)).filterMap (·.1) = ks := by rfl) (hpl : ((backTo pos (starEach [] X.env)).any (·.1) || (backToKw pos (keywordEach kws X.env)).any (·.1.isNone)) = false := by rfl)
    (ht : eval (.Call (.Attribute o mn apos) [] kws pos) X.env = (do
      let ov ← eval o X.env
      standAt apos.atName
      let (f, first) ← holding [ov] (getMethod ov mn pl)
      callWith pos f first (backTo pos (starEach [] X.env)) (backToKw pos (keywordEach kws X.env))) := by rfl) :
    PE X (.Call (.Attribute o mn apos) [] kws pos) (tE B Γ Rb (fun s K => m s fun x s0 => mk s0 fun z s1 => mf (φ x z) fun r => K r s1)) := by
  refine ⟨fun pins s σ H Q I ⟨s', F', K', A, hmm, kk⟩ => ?_⟩
  refine PySem.W.methodCall_KW (pl := pl) (thn (ho.run pins s σ H (fun v H1 => ∃ (x : α) (s0 : S) (F0 : Hp), mk s0 (fun z s1 => mf (φ x z) fun r => K' r s1) ∧ At B (Γ s0) σ F0 H1 ∧ Same F' F0 ∧ (R x).p v F0) I ⟨s', F', _, A, hmm, fun x s0 v F0 H0 h0 A0 e0 r0 => ⟨x, s0, F0, h0, A0, e0, r0⟩⟩) fun u s1 ⟨xv, H1, I1, rx, x, s0, F0, h0, A0, e0, r0⟩ => ?_) ht
  obtain ⟨a, dx, fs, rfl, h2, h3⟩ := hI x xv F0 r0
  obtain rfl : u = Value.ref a := rx
  refine getmeth_ok I1 (A0.sub _ _ h2) c hm h3 ?_
  refine PySem.W.callWith_KW0 (first := [.ref a]) (h₀ := X.base) I.ok.mod.kin hm.kp hall ?_ hpl
  refine thn (hkw.run pos pins s1 σ H1 (fun ws H2 => ∃ (z : ι') (s2 : S) (F2 : Hp), mf (φ x z) (fun r => K' r s2) ∧ At B (Γ s2) σ F2 H2 ∧ Same F0 F2 ∧ AllP (As' z) ws F2) I1 ⟨s0, F0, _, A0, h0, fun z s2 ws F2 H2 q2 A2 e2 r2 => ⟨z, s2, F2, q2, A2, e2, r2⟩⟩) fun ws s2' ⟨zs, H2, I2, rz, z, s2, F2, q2, A2, e2, r2⟩ => ⟨I2.kIn, ?_⟩
  rw [hks]
  refine run_fnN (us := [.ref a]) (vs := [V.ref a]) F hr hb (pass0 (X := X)) I2 (.cons rfl .nil) rz rfl (by rw [r2.len]; exact hj z) ?_
  exact ⟨φ x z, F2, _, hO x z _ zs F2 ((R x).mono _ _ _ e2 r0) r2, A2.sub, q2, fun r v F'' H'' kr rv eF eH sb nw => kk r s2 v F'' H'' kr (A2.grow eF eH sb nw) ((e0.trans e2).trans eF) rv⟩
/-- C(k = e, ..) -/
theorem te_makeK0 {mf : κ → (α → Prop) → Prop} (φ : ι' → κ) (M : Mk X.K C f) (F : FnOk X.prog X.w X.K X.mg X.base CX0 k f fd ps (spI C Aw R mf)) (hr : Room (k + 1) X.A) (hm : X.mg x = some (.ref C)) (hb : KBn X.K fd ps 1 ks (permG (0 :: idx)) (permG (0 :: idx))) (hkw : PK X kws (tA B Γ As' mk))
    (hO : ∀ u z ws F, AllP (As' z) ws F → ∃ vs, permG (0 :: idx) [u] ws = u :: vs ∧ AllP (Aw (φ z)) vs F) (hj : ∀ z, (As' z).length = ks.length := by intro _; rfl) (hg : Gl X x := by rfl) (hdb : (x == ("__debug__" : Str)) = false := by decide)
    (hall : (backToKw pos (keywordEach kws X.env)).all (·.1.isSome) = true := by rfl) (hks : (backToKw pos (keywordEach kws X.env)).filterMap (·.1) = ks := by rfl) (hpl : ((backTo pos (starEach [] X.env)).any (·.1) || (backToKw pos (keywordEach kws X.env)).any (·.1.isNone)) = false := by rfl) :
    PE X (.Call (.Name x p) [] kws pos) (tE B Γ R (fun s K => mk s fun z s1 => mf (φ z) fun r => K r s1)) :=
  pe_imp (pe_makeK0 M F hr hg hm hb (pass0 (X := X)) hkw hall hks hdb hpl) fun σ H Q ⟨s, F, K', A, hm, k⟩ => ⟨s, F, _, A, hm, fun z s1 ws F1 H1 h1 A1 e1 r1 => ⟨rfl, by rw [r1.len]; exact hj z, fun a dx na nd ne => by
    obtain ⟨vs, ev, rv'⟩ := hO (.ref a) z ws F1 r1
    rw [ev]
    have fa := (A1.fresh na).1
    have fd' := (A1.fresh nd).1
    have keep : ∀ b u, H1 b = some u → (upd (upd H1 dx (.own a)) a (.ins C dx [])) b = some u := fun b u g => by
      rw [upd_ne (ne_of_none g na), upd_ne (ne_of_none g nd)]; exact g
    refine ⟨φ z, F1, _, a, dx, vs, rfl, rv', fun b u g => keep b u (A1.sub _ _ g), fa, fd', ne, upd_same, by rw [upd_ne ne, upd_same], h1, fun r F' H' kr rv eF eH sb nw => ⟨rfl, ?_⟩⟩
    refine k r s1 _ F' H' kr (A1.grow eF (fun b u g => eH b u (ne_of_none g na) (keep b u g)) sb fun b u g => ?_) (e1.trans eF) rv
    rcases nw b u g with z | z | z
    · exact .inl z
    · exact .inr (z ▸ na)
    · right
      cases q : H1 b with
      | none => rfl
      | some w => rw [keep b w q] at z; cases z⟩⟩
end
section
variable {X : Cx} {S : Type} {B : Bs} {Γ : S → List Sl} {α : Type} {R : α → Pd} {b : Expr} {pn apos cpos : Pos} {xn : Str}
theorem te_popAt (i : Nat) (get : S → List α) (put : S → List α → S) {mb : S → (Int → S → Prop) → Prop} (he : PE X b (tE B Γ RInt mb)) (hG : ∀ s, (Γ s)[i]? = some (.ow (OList R (get s))) := by intro _; rfl) (hP : ∀ s t, Γ (put s t) = (Γ s).set i (.ow (OList R t)) := by intro _ _; rfl)
    (hN : X.N[i]? = some xn := by rfl) (hv : Vis X.env.scope xn := by first | exact Or.inl rfl | exact Or.inr (Or.inl rfl) | exact Or.inr (Or.inr rfl)) (hd : (xn == ("__debug__" : Str)) = false := by decide) (hcd : (xn == ("__classdict__" : Str)) = false := by decide)
    (hs : starEach [b] X.env = (false, eval b X.env) :: starEach [] X.env := by rfl) (hpl : (backTo cpos (starEach [] X.env)).any (·.1) = false := by rfl)
    (hbase : attributeBase (.Name xn pn) "pop" X.env (eval (.Name xn pn) X.env) = eval (.Name xn pn) X.env := by rfl) (hline : (apos.endLine == cpos.line) = true := by rfl) (hfew : FewArgs X cpos [b] := by rfl) :
    PE X (.Call (.Attribute (.Name xn pn) "pop" apos) [b] [] cpos) (tE B Γ R (fun s K => mb s fun j s1 => ∃ y, (0 ≤ j ∧ j < ((get s1).length : Int) ∧ j ≤ 1000000 ∧ (get s1)[j.toNat]? = some y) ∧ K y (put s1 ((get s1).eraseIdx j.toNat)))) :=
  pe_imp (pe_bm PySem.F.plainAttrs_list PySem.F.slot_list_pop PySem.F.type_list_pop mt_popAt (pe_var hN hv hd hcd) (pa_cons he pa_nil hs) hbase hfew hline hs hpl) fun σ H Q ⟨s, F, K', A, hm, k⟩ => by
    obtain ⟨q, o, h1, h2, h3, ⟨vs, h4, h5⟩, h6⟩ := A.ow (hG s)
    subst h4
    refine ⟨_, h1, .inl ⟨rfl, vs, SqL.of h3⟩, s, F, _, A, hm, fun j s1 v F1 H1 ⟨y, ⟨j0, j1, j2, hy⟩, k1⟩ A1 e1 r1 => ?_⟩
    obtain ⟨q', o', g1, g2, g3, ⟨vs', g4, g5⟩, g6⟩ := A1.ow (hG s1)
    rw [h1] at g1
    cases g1
    subst g4
    obtain ⟨v', hv', rv'⟩ := g5.get hy
    have hi : ixN vs'.length j = some j.toNat := by
      unfold ixN
      rw [g5.len, if_pos j0, if_pos j1]
    refine ⟨q, vs', j, j.toNat, v', rfl, by rw [show v = V.int j from r1], g3, by omega, by omega, (ixN_seq hi).1, hv', k y (put s1 ((get s1).eraseIdx j.toNat)) v' F1 _ k1 ?_ e1 rv'⟩
    rw [hP]
    exact A1.write (hG s1) h1 ⟨_, rfl, g5.erase _⟩
end
/-- a tuple of whole numbers as data -/
def datT (x : List Int) : PyData := .tuple (x.map PyData.int)
theorem alikeInts : ∀ a b : List Int, PySem.W.alikeAll (a.map PyData.int) (b.map PyData.int) = true
  | [], b => by simp [PySem.W.alikeAll]
  | x :: a, [] => by simp [PySem.W.alikeAll]
  | x :: a, y :: b => by
    show (PySem.W.alike (.int x) (.int y) && PySem.W.alikeAll (a.map PyData.int) (b.map PyData.int)) = true
    rw [alikeInts a b]
    simp [PySem.W.alike]
theorem datT_al (x y : List Int) : PySem.W.alike (datT x) (datT y) = true := by
  show PySem.W.alikeAll _ _ = true
  exact alikeInts x y
theorem datT_nn (x : List Int) : datT x ≠ .none := fun h => nomatch h
section
variable {X : Cx} {S S' : Type} {B : Bs} {Γ : S → List Sl} {α β : Type} {R : α → Pd} {Rb : β → Pd} {P : Xt} {st : Stmt} {rest : List Stmt} {m : S → (List α → S → Prop) → Prop}
/-- a, b = a new list, [] -/
theorem ts_parOE {i j : Nat} {Γ' : S' → List Sl} {mk : S → List α → S'} {mr : S' → Prop} (h : PS X st (tPar i j (tCons (tN B Γ R m) (tCons (tLst tNil) tNil)))) (hG : ∀ s x, Γ' (mk s x) = ((Γ s).set i (.ow (OList R x))).set j (.ow (OList Rb []))) (hij : i ≠ j) (hr : PSs X rest (tS B Γ' P mr)) :
    PSs X (st :: rest) (tS B Γ P (fun s => m s fun x s1 => mr (mk s1 x))) :=
  pss_imp (pss_cons h hr) fun D σ H ⟨s, F, A, hm, L⟩ => ⟨s, F, _, A, hm, fun x s1 p vs F1 H1 h1 A1 e1 hp fp bp np av => ⟨Nat.zero_le _, fun q nq => ⟨.ref p, .ref q, rfl, mk s1 x, F1, by
    rw [hG]
    have npq : p ≠ q := ne_of_none hp nq
    have fr := A1.fresh nq
    have A2 := A1.layH (o := .lst []) nq
    have A3 := A2.setOw (i := i) (O := OList R x) (p := p) (o := .lst vs) fp (by rw [upd_ne npq]; exact hp) bp np ⟨vs, rfl, av⟩
    refine A3.setOw (i := j) (O := OList Rb []) (p := q) (o := .lst []) fr.1 upd_same fr.2 (fun z => ?_) ⟨[], rfl, trivial⟩
    rcases mem_owA_set z with z | z
    · simp [ownS] at z
      exact npq z.symm
    · exact A1.notOwn nq z, h1, L⟩⟩⟩
end
end TL
namespace TL
open PySem L2
section
variable {X : Cx} {S : Type} {B : Bs} {Γ : S → List Sl} {K : PySem.W.Frag} {a b : Expr} {p pos p2 pos2 : Pos}
theorem rgV_ints (a b : Int) : rgV a b = (rangeL a b).map V.int := by
  unfold rgV rangeL
  rw [List.map_map]
  rfl
/-- list(range(n)) -/
theorem tn_listRg1 {ma : S → (Int → S → Prop) → Prop} (hl : X.mg "list" = none) (hm : X.mg "range" = none) (ha : PE X a (tE B Γ RInt ma)) (hc : X.calm = true := by rfl) (hgl : Gl X "list" := by rfl) (hg : Gl X "range" := by rfl) (hs : starEach [a] X.env = (false, eval a X.env) :: starEach [] X.env := by rfl)
    (na : starEach [.Call (.Name "range" p2) [a] [] pos2] X.env = (false, eval (.Call (.Name "range" p2) [a] [] pos2) X.env) :: starEach [] X.env := by rfl) :
    PE X (.Call (.Name "list" p) [.Call (.Name "range" p2) [a] [] pos2] [] pos) (tN B Γ RInt (fun s K => ma s fun n s1 => (0 ≤ n ∧ n ≤ 1000000) ∧ K (rangeL 0 n) s1)) :=
  pe_imp (pe_listRg hc hgl hl (prg_1 hg hm ha hs) na) fun σ H Q ⟨s, F, K', A, hmm, k⟩ => ⟨s, F, _, A, hmm, fun n s1 v F1 H1 ⟨h0, h1⟩ A1 e1 r1 => ⟨n, r1, RgOk.of_le (by omega) (by omega) (by omega) (by omega), fun q nq => by
    have fr := A1.fresh nq
    exact k _ s1 q _ F1 _ h1 (A1.layH nq) e1 upd_same fr.1 fr.2 (A1.notOwn nq) (AllR.ints.mpr (rgV_ints 0 n))⟩⟩
/-- list(range(a, b)) -/
theorem tn_listRg2 {ma mb : S → (Int → S → Prop) → Prop} (hl : X.mg "list" = none) (hm : X.mg "range" = none) (ha : PE X a (tE B Γ RInt ma)) (hb : PE X b (tE B Γ RInt mb)) (hc : X.calm = true := by rfl) (hgl : Gl X "list" := by rfl) (hg : Gl X "range" := by rfl) (hs : starEach [a, b] X.env = (false, eval a X.env) :: starEach [b] X.env := by rfl) (hs2 : starEach [b] X.env = (false, eval b X.env) :: starEach [] X.env := by rfl) (hpl : (backTo pos2 (starEach [b] X.env)).any (·.1) = false := by rfl)
    (na : starEach [.Call (.Name "range" p2) [a, b] [] pos2] X.env = (false, eval (.Call (.Name "range" p2) [a, b] [] pos2) X.env) :: starEach [] X.env := by rfl) :
    PE X (.Call (.Name "list" p) [.Call (.Name "range" p2) [a, b] [] pos2] [] pos) (tN B Γ RInt (fun s K => ma s fun n s1 => mb s1 fun j s2 => (0 ≤ n ∧ n ≤ 1000000 ∧ 0 ≤ j ∧ j ≤ 1000000) ∧ K (rangeL n j) s2)) :=
  pe_imp (pe_listRg hc hgl hl (prg_2 hg hm ha hb hs hs2 hpl) na) fun σ H Q ⟨s, F, K', A, hmm, k⟩ => ⟨s, F, _, A, hmm, fun n s1 v F1 H1 h1 A1 e1 r1 => ⟨s1, F1, _, A1, h1, fun j s2 w F2 H2 ⟨h0, h2⟩ A2 e2 r2 => ⟨n, j, r1, r2, RgOk.of_le (by omega) (by omega) (by omega) (by omega), fun q nq => by
    have fr := A2.fresh nq
    exact k _ s2 q _ F2 _ h2 (A2.layH nq) (e1.trans e2) upd_same fr.1 fr.2 (A2.notOwn nq) (AllR.ints.mpr (rgV_ints n j))⟩⟩⟩
end
end TL
namespace TL
open PySem L2
/-! ### comprehensions whose parts change a lent thing (the law's jar) -/
def mMapS {α β T : Type} : List α → (α → T → (β → T → Prop) → Prop) → T → (List β → T → Prop) → Prop
  | [], _, t, K => K [] t
  | x :: xs, f, t, K => f x t fun y t1 => mMapS xs f t1 fun ys t2 => K (y :: ys) t2
section
variable {S T : Type} {B : Bs} {Γ : S → List Sl} {O : T → Od}
theorem At.backB {i : Nat} {j : Addr} {get : S → T} {put : S → T → S} (hG : ∀ s, (Γ s)[i]? = some (.bo j (O (get s)))) (hP : ∀ s t, Γ (put s t) = (Γ s).set i (.bo j (O t))) {s : S} {t : T} {σ : L2.St} {F H F' H' : Hp} {o' : HO}
    (A : At B (Γ s) σ F H) (eF : Same F F') (eH : ∀ a u, a ≠ j → H a = some u → H' a = some u) (sb : Same F' H') (nw : Nw F H F') (fj : F' j = none) (hj : H' j = some o') (ho : (O t).p o' F') : At B (Γ (put s t)) σ F' H' := by
  obtain ⟨ob, g1, g2, g3, g4, g5⟩ := A.bo (hG s)
  rw [hP]
  have A2 := A.grow (H' := fun b => if b = j then some ob else H' b) eF (fun b u g => by
    by_cases hb : b = j
    · subst hb; rw [g3] at g; cases g; exact if_pos rfl
    · show (if b = j then _ else _) = _
      rw [if_neg hb]; exact eH b u hb g) (fun b u g => by
    by_cases hb : b = j
    · subst hb; rw [fj] at g; cases g
    · show (if b = j then _ else _) = _
      rw [if_neg hb]; exact sb b u g) nw
  have A3 := A2.writeB (O' := O t) (o := o') (hG s) ho
  have : upd (fun b => if b = j then some ob else H' b) j o' = H' := by
    funext b
    unfold upd
    by_cases hb : b = j
    · subst hb; rw [if_pos rfl, hj]
    · rw [if_neg hb]
      show (if b = j then _ else _) = _
      rw [if_neg hb]
  rw [this] at A3
  exact A3
theorem At.backO {i : Nat} {j : Addr} {get : S → T} {put : S → T → S} (hG : ∀ s, (Γ s)[i]? = some (.ow (O (get s)))) (hP : ∀ s t, Γ (put s t) = (Γ s).set i (.ow (O t))) {s : S} {t : T} {σ : L2.St} {F H F' H' : Hp} {o' : HO}
    (A : At B (Γ s) σ F H) (h1 : σ[i]? = some (some (.ref j))) (eF : Same F F') (eH : ∀ a u, a ≠ j → H a = some u → H' a = some u) (sb : Same F' H') (nw : Nw F H F') (fj : F' j = none) (hj : H' j = some o') (ho : (O t).p o' F') : At B (Γ (put s t)) σ F' H' := by
  obtain ⟨j', ob, g1, g2, g3, g4, g5⟩ := A.ow (hG s)
  rw [h1] at g1
  cases g1
  rw [hP]
  have A2 := A.grow (H' := fun b => if b = j then some ob else H' b) eF (fun b u g => by
    by_cases hb : b = j
    · subst hb; rw [g3] at g; cases g; exact if_pos rfl
    · show (if b = j then _ else _) = _
      rw [if_neg hb]; exact eH b u hb g) (fun b u g => by
    by_cases hb : b = j
    · subst hb; rw [fj] at g; cases g
    · show (if b = j then _ else _) = _
      rw [if_neg hb]; exact sb b u g) nw
  have A3 := A2.write (O' := O t) (o := o') (hG s) h1 ho
  have : upd (fun b => if b = j then some ob else H' b) j o' = H' := by
    funext b
    unfold upd
    by_cases hb : b = j
    · subst hb; rw [if_pos rfl, hj]
    · rw [if_neg hb]
      show (if b = j then _ else _) = _
      rw [if_neg hb]
  rw [this] at A3
  exact A3
theorem nodup_setB : ∀ {Γ : List Sl} {σ : L2.St} {i : Nat} {j : Addr} {P : Od}, owA Γ σ = [] → (owA (Γ.set i (.bo j P)) σ).Nodup
  | [], σ, i, j, P, h => by simp [owA]
  | s :: Γ, [], i, j, P, h => by cases i <;> simp [owA]
  | s :: Γ, x :: σ, 0, j, P, h => by
    have h : ownS s x ++ owA Γ σ = [] := h
    show (ownS (.bo j P) x ++ owA Γ σ).Nodup
    rw [(List.append_eq_nil_iff.mp h).2, List.append_nil]
    cases x with
    | none => simp [ownS]
    | some v => cases v <;> simp [ownS]
  | s :: Γ, x :: σ, i + 1, j, P, h => by
    have h : ownS s x ++ owA Γ σ = [] := h
    have h1 := (List.append_eq_nil_iff.mp h)
    show (ownS s x ++ owA (Γ.set i (.bo j P)) σ).Nodup
    rw [h1.1, List.nil_append]
    exact nodup_setB h1.2
theorem fits_pur_base {B1 B2 : Bs} {F H : Hp} : ∀ {Γ Γ' : List Sl} {σ : L2.St}, Pur Γ Γ' → Fits B1 F H Γ' σ → Fits B2 F H Γ' σ
  | _, _, [], .nil, h => h
  | _, _, _ :: _, .nil, h => h
  | _, _, [], .im _, h => h.elim
  | _, _, [], .any _, h => h.elim
  | _, _, x :: σ, .im p, h => ⟨h.1, fits_pur_base p h.2⟩
  | _, _, x :: σ, .any p, h => ⟨trivial, fits_pur_base p h.2⟩
variable {α β : Type} {R : α → Pd} {Rb : β → Pd}
theorem lc_readJ {te : TE} {g : TG} {js vs : List Nat} {up : List Sl → α → List Sl} (tgt : Tg g R js up) {Γp : S → List Sl} {mi : S → (List α → S → Prop) → Prop} {me : S → α → T → (β → T → Prop) → Prop} {i : Nat} {j : Addr} {get : S → T} {put : S → T → S} {σ : L2.St}
    (hS : ∀ s F H, At B (Γ s) σ F H → F j = none ∧ ∃ o, σ[i]? = some (some (.ref j)) ∧ H j = some o ∧ (O (get s)).p o F)
    (hB : ∀ {s t F H F' H' o'}, At B (Γ s) σ F H → Same F F' → (∀ a u, a ≠ j → H a = some u → H' a = some u) → Same F' H' → Nw F H F' → F' j = none → H' j = some o' → (O t).p o' F' → At B (Γ (put s t)) σ F' H')
    (hte : ∀ (z : S × α × Bs) σ H Q, tE z.2.2 (fun t : T => up ((Γp z.1).set i (.bo j (O t))) z.2.1) Rb (fun t K => me z.1 z.2.1 t K) σ H Q → te σ H Q) (hW : ∀ s t t', owA (Γ (put s t)) σ = owA (Γ (put s t')) σ) (gp : ∀ s t, get (put s t) = t) (pp : ∀ s t t', put (put s t) t' = put s t') (pg : ∀ s, put s (get s) = s)
    (hp : ∀ s, Pur (Γ s) (Γp s)) (hΓ : ∀ s t, Γp (put s t) = Γp s) (hj : ∀ k ∈ js, k ∈ vs) (hi : i ∉ vs) (hu : ∀ Γ x, (up Γ x)[i]? = Γ[i]?) (hv : ∀ s, ∀ k ∈ vs, (Γp s)[k]? = some .any ∨ (Γp s)[k]? = none) {H : Hp} {Q : VK}
    (q : tN B Γ Rb (fun s K => mi s fun xs s1 => xs.length ≤ 1000000 ∧ mMapS xs (me s1) (get s1) fun ys t => K ys (put s1 t)) σ H Q) :
    tLc (tI B Γ R mi) g (fun σ H Q => Q true H)
      te vs σ H Q := by
  obtain ⟨s, F, K', A, hm, k⟩ := q
  refine ⟨s, F, _, A, hm, fun xs s1 J F1 H1 ⟨hz, h1⟩ A1 e1 src => ?_⟩
  intro D hD
  have bD := A1.beside hD
  refine ⟨fun n mm H' => ∃ Fi acc ys t, mm = xs.length - n ∧ n ≤ xs.length ∧ Same F1 Fi ∧ At B (Γ (put s1 t)) σ Fi H' ∧ H' D = some (.lst acc) ∧ Fi D = none ∧ D ∉ owA (Γ (put s1 t)) σ ∧ D ≠ j ∧ AllR Rb ys acc Fi ∧ ys.length ≤ n ∧ mMapS (xs.drop n) (me s1) t fun zs t' => K' (ys ++ zs) (put s1 t'), ?_, ?_⟩
  · have hSj := hS _ _ _ A1
    refine ⟨xs.length, F1, [], [], get s1, by simp, Nat.zero_le _, Same.refl _, by rw [pg]; exact A1.layH hD, upd_same, bD.1, by rw [pg]; exact bD.2.2, fun z => ?_, trivial, Nat.le_refl _, ?_⟩
    · obtain ⟨_, o, _, h3, _⟩ := hSj
      rw [← z, hD] at h3
      cases h3
    · simpa using h1
  · rintro n mm H' ⟨Fi, acc, ys, t, rfl, hn, eF, Ai, hDi, fDi, nD, Dj, av, hyl, hk⟩
    obtain ⟨s1', s2', s3'⟩ := src Fi H' eF Ai.sub
    by_cases hlt : n < xs.length
    · refine .inr ⟨s2' n hlt, fun H'' => ∃ mm', mm' < xs.length - n ∧ ∃ Fi acc ys t, mm' = xs.length - (n + 1) ∧ n + 1 ≤ xs.length ∧ Same F1 Fi ∧ At B (Γ (put s1 t)) σ Fi H'' ∧ H'' D = some (.lst acc) ∧ Fi D = none ∧ D ∉ owA (Γ (put s1 t)) σ ∧ D ≠ j ∧ AllR Rb ys acc Fi ∧ ys.length ≤ n + 1 ∧ mMapS (xs.drop (n + 1)) (me s1) t fun zs t' => K' (ys ++ zs) (put s1 t'), fun H'' z => z, fun v H2 hy => ?_⟩
      obtain ⟨F2, f1, f2, f3, f4, f5⟩ := s3' n xs[n] v H2 (List.getElem?_eq_getElem hlt) hy
      have A2 := Ai.grow f1 f2 f3 f4
      have hD2 := f2 _ _ hDi
      have fD2 : F2 D = none := f4.no fDi hDi
      rw [List.drop_eq_getElem_cons hlt] at hk
      obtain ⟨fj2, oj, hsj, hj2, pj2⟩ := hS _ _ _ A2
      rw [gp] at pj2
      obtain ⟨pf, po⟩ := fits_pure (F' := F2) (H' := H2) (σ' := wipe σ vs) vs (hp (put s1 t)) A2.fit (fun i hi => wipe_out hi) (wipe_length σ vs) (hv _)
      have hpp := hp (put s1 t)
      rw [hΓ] at pf po hpp
      have ws : (wipe σ vs)[i]? = some (some (.ref j)) := by rw [wipe_out hi, hsj]
      have pf2 : Fits ⟨F2, H2, fun a => a = j, []⟩ F2 H2 ((Γp s1).set i (.bo j (O t))) (wipe σ vs) := by
        have pf' : Fits ⟨F2, H2, fun a => a = j, []⟩ F2 H2 (Γp s1) (wipe σ vs) := fits_pur_base hpp pf
        exact pf'.reset ws ⟨oj, rfl, fj2, hj2, pj2, rfl⟩
      have A3 : At ⟨F2, H2, fun a => a = j, []⟩ ((Γp s1).set i (.bo j (O t))) (wipe σ vs) F2 H2 := ⟨A2.sub, Same.refl _, fun a o e _ => e, fun a o e => .inl e, pf2, nodup_setB po, fun a hb => by
        have hb : a = j := hb
        subst hb
        exact ⟨fj2, ⟨_, hj2⟩, ⟨_, hj2⟩⟩, fun _ z => nomatch z⟩
      refine tgt.run A3 f5 fun σ' A4 hw => ?_
      refine ⟨by rw [hw vs hj, wipe_wipe fun _ z => z], ?_⟩
      refine iteT ?_
      refine hte ⟨s1, xs[n], ⟨F2, H2, fun a => a = j, []⟩⟩ _ _ _ ⟨t, F2, fun y t' => mMapS (xs.drop (n + 1)) (me s1) t' fun zs t'' => K' (ys ++ (y :: zs)) (put s1 t''), A4, hk, fun y t' w F6 H6 h6 A6 e6 r6 => ?_⟩
      have hlen : i < ((Γp s1)).length := by
        have e1 := A3.len
        rw [List.length_set] at e1
        have e2 := (List.getElem?_eq_some_iff.mp ws).1
        omega
      obtain ⟨o', _, fj6, hj6, pj6, _⟩ := A6.bo (i := i) (j := j) (O := O t') (by rw [hu, List.getElem?_set_self hlen])
      have kp : ∀ a u, a ≠ j → H2 a = some u → H6 a = some u := fun a u na hu' => A6.kept a u hu' na
      have nw : Nw F2 H2 F6 := fun a o e => A6.new a o e
      have A7 := hB (t := t') A2 A6.ext kp A6.sub nw fj6 hj6 pj6
      rw [pp] at A7
      have hD6 := kp _ _ Dj hD2
      have fD6 := nw.no fD2 hD2
      have nD6 : D ∉ owA (Γ (put s1 t')) σ := by rw [hW s1 t' t]; exact nD
      refine ⟨acc, hD6, ?_, xs.length - (n + 1), by omega, F6, acc ++ [w], ys ++ [y], t', rfl, hlt, (eF.trans f1).trans A6.ext, A7.poke hD6 fD6 bD.2.1 nD6, upd_same, fD6, nD6, Dj, ?_, by rw [List.length_append, List.length_singleton]; omega, ?_⟩
      · rw [av.len]
        exact Nat.lt_of_lt_of_le (Nat.lt_of_le_of_lt hyl hlt) (smallLen hz)
      · exact ((av.mono f1).mono A6.ext).append ⟨r6, trivial⟩
      · simpa using h6
    · have e : n = xs.length := by omega
      subst e
      refine .inl ⟨s1' _ (Nat.le_refl _), ?_⟩
      rw [List.drop_length] at hk
      have hk : K' (ys ++ []) (put s1 t) := hk
      rw [List.append_nil] at hk
      exact k ys (put s1 t) D acc Fi H' hk Ai (e1.trans eF) hDi fDi bD.2.1 nD av
end
section
variable {X : Cx} {S T : Type} {B : Bs} {Γ : S → List Sl} {O : T → Od} {α β : Type} {R : α → Pd} {Rb : β → Pd} {tg it elt : Expr} {pos spos py : Pos} {y : Str} {scope : Scope} {own : List (Str × Nat)} {g : TG} {js : List Nat} {up : List Sl → α → List Sl}
theorem pts_go {Y : Cx} : PTs Y [] (fun σ H Q => Q true H) := ⟨fun pins s σ H Q I q => pts_nil.run pins s σ H Q I q⟩
/-- [e for x in xs], e changing the jar of slot i: lent -/
theorem tn_mapB {mi : S → (List α → S → Prop) → Prop} {me : S → α → T → (β → T → Prop) → Prop} (i : Nat) {j : Addr} (get : S → T) (put : S → T → S) (nd : X.N.Nodup) (hi : PI X tg it (tI B Γ R mi)) (ok : BlkOk X.N X.env.scope scope own)
    (hg : ∀ (s : Shared) (H : Hp) (C : Addr) (cl : List (Str × Addr)) (fp : List Addr), PG (X.blk s H scope (compEnvC scope cl C X.env) fp) tg g) (tgt : Tg g R js up)
    (he : ∀ (s1 : S) (x : α) (B' : Bs) (j : Addr) (s : Shared) (H : Hp) (C : Addr) (cl : List (Str × Addr)) (fp : List Addr), PE (X.blk s H scope (compEnvC scope cl C X.env) fp) elt (tE B' (fun t : T => up ((pureFrom (own.map (·.2)) 0 (Γ s1)).set i (.bo j (O t))) x) Rb (me s1 x)))
    (hG : ∀ s, (Γ s)[i]? = some (.bo j (O (get s))) := by intro _; rfl) (hP : ∀ s t, Γ (put s t) = (Γ s).set i (.bo j (O t)) := by intro _ _; rfl) (hΓ : ∀ s t, pureFrom (own.map (·.2)) 0 (Γ (put s t)) = pureFrom (own.map (·.2)) 0 (Γ s) := by intro _ _; rfl)
    (gp : ∀ s t, get (put s t) = t := by intro _ _; rfl) (pp : ∀ s t t', put (put s t) t' = put s t' := by intro _ _ _; rfl) (pg : ∀ s, put s (get s) = s := by intro _; rfl)
    (hu : ∀ Γ x, (up Γ x)[i]? = Γ[i]? := by intro _ _; exact List.getElem?_set_ne (by decide)) (hiv : i ∉ own.map (·.2) := by decide)
    (hj : ∀ j ∈ js, j ∈ own.map (·.2) := by decide) (hc : X.calm = true := by rfl) (hs : ∀ x, foldedSetIterable it X.env x = pure x := by intro _; rfl) :
    PE X (.ListComp elt [⟨tg, it, [], 0⟩] scope pos) (tN B Γ Rb (fun s K => mi s fun xs s1 => xs.length ≤ 1000000 ∧ mMapS xs (me s1) (get s1) fun ys t => K ys (put s1 t))) :=
  pe_imp (pe_lc hc nd hi ok hg (fun _ _ _ _ _ => pts_go) (fun s H C cl fp => pe_ex fun z : S × α × Bs => he z.1 z.2.1 z.2.2 j s H C cl fp) hs)
    fun σ H Q q => lc_readJ (i := i) (j := j) (get := get) (put := put) tgt (fun s F H A => by
      obtain ⟨o, h1, h2, h3, h4, _⟩ := A.bo (hG s)
      exact ⟨h2, o, h1, h3, h4⟩) (fun A eF eH sb nw fj hj ho => At.backB hG hP A eF eH sb nw fj hj ho) (fun z _ _ _ h => ⟨z, h⟩) (fun s t t' => by rw [hP, hP, owA_set_bo (hG s), owA_set_bo (hG s)]) gp pp pg (fun s => pur_pure _ 0 _) hΓ hj hiv hu (fun s k hk => pure_any _ 0 _ k (by simpa using hk)) q
/-- .. owned here -/
theorem tn_mapO {mi : S → (List α → S → Prop) → Prop} {me : S → α → T → (β → T → Prop) → Prop} (i : Nat) (get : S → T) (put : S → T → S) (nd : X.N.Nodup) (hi : PI X tg it (tI B Γ R mi)) (ok : BlkOk X.N X.env.scope scope own)
    (hg : ∀ (s : Shared) (H : Hp) (C : Addr) (cl : List (Str × Addr)) (fp : List Addr), PG (X.blk s H scope (compEnvC scope cl C X.env) fp) tg g) (tgt : Tg g R js up)
    (he : ∀ (s1 : S) (x : α) (B' : Bs) (j : Addr) (s : Shared) (H : Hp) (C : Addr) (cl : List (Str × Addr)) (fp : List Addr), PE (X.blk s H scope (compEnvC scope cl C X.env) fp) elt (tE B' (fun t : T => up ((pureFrom (own.map (·.2)) 0 (Γ s1)).set i (.bo j (O t))) x) Rb (me s1 x)))
    (hG : ∀ s, (Γ s)[i]? = some (.ow (O (get s))) := by intro _; rfl) (hP : ∀ s t, Γ (put s t) = (Γ s).set i (.ow (O t)) := by intro _ _; rfl) (hΓ : ∀ s t, pureFrom (own.map (·.2)) 0 (Γ (put s t)) = pureFrom (own.map (·.2)) 0 (Γ s) := by intro _ _; rfl)
    (gp : ∀ s t, get (put s t) = t := by intro _ _; rfl) (pp : ∀ s t t', put (put s t) t' = put s t' := by intro _ _ _; rfl) (pg : ∀ s, put s (get s) = s := by intro _; rfl)
    (hu : ∀ Γ x, (up Γ x)[i]? = Γ[i]? := by intro _ _; exact List.getElem?_set_ne (by decide)) (hiv : i ∉ own.map (·.2) := by decide)
    (hj : ∀ j ∈ js, j ∈ own.map (·.2) := by decide) (hc : X.calm = true := by rfl) (hs : ∀ x, foldedSetIterable it X.env x = pure x := by intro _; rfl) :
    PE X (.ListComp elt [⟨tg, it, [], 0⟩] scope pos) (tN B Γ Rb (fun s K => mi s fun xs s1 => xs.length ≤ 1000000 ∧ mMapS xs (me s1) (get s1) fun ys t => K ys (put s1 t))) :=
  pe_imp (pe_lc hc nd hi ok hg (fun _ _ _ _ _ => pts_go) (fun s H C cl fp => pe_ex fun z : Addr × S × α × Bs => he z.2.1 z.2.2.1 z.2.2.2 z.1 s H C cl fp) hs)
    fun σ H Q q => by
      obtain ⟨s0, F0, K0, A0, hm0, k0⟩ := id q
      obtain ⟨j, o0, h1, _⟩ := A0.ow (hG s0)
      exact lc_readJ (i := i) (j := j) (get := get) (put := put) (me := me) (Γp := fun s => pureFrom (own.map (·.2)) 0 (Γ s)) tgt (fun s F H A => by
        obtain ⟨j', o, g1, g2, g3, g4, _⟩ := A.ow (hG s)
        rw [h1] at g1
        cases g1
        exact ⟨g2, o, h1, g3, g4⟩) (fun A eF eH sb nw fj hj ho => At.backO hG hP A h1 eF eH sb nw fj hj ho) (fun z _ _ _ h => ⟨(j, z), h⟩) (fun s t t' => by rw [hP, hP, owA_set_ow (hG s), owA_set_ow (hG s)]) gp pp pg (fun s => pur_pure _ 0 _) hΓ hj hiv hu (fun s k hk => pure_any _ 0 _ k (by simpa using hk)) q
/-- y = [e for x in xs] likewise, y a plain local on one row -/
theorem ps_mapB {mi : S → (List α → S → Prop) → Prop} {me : S → α → T → (β → T → Prop) → Prop} {l : Nat} (i : Nat) {j : Addr} (get : S → T) (put : S → T → S) (nd : X.N.Nodup) (hi : PI X tg it (tI B Γ R mi)) (ok : BlkOk X.N X.env.scope scope own)
    (hg : ∀ (s : Shared) (H : Hp) (C : Addr) (cl : List (Str × Addr)) (fp : List Addr), PG (X.blk s H scope (compEnvC scope cl C X.env) fp) tg g) (tgt : Tg g R js up)
    (he : ∀ (s1 : S) (x : α) (B' : Bs) (j : Addr) (s : Shared) (H : Hp) (C : Addr) (cl : List (Str × Addr)) (fp : List Addr), PE (X.blk s H scope (compEnvC scope cl C X.env) fp) elt (tE B' (fun t : T => up ((pureFrom (own.map (·.2)) 0 (Γ s1)).set i (.bo j (O t))) x) Rb (me s1 x)))
    (hG : ∀ s, (Γ s)[i]? = some (.bo j (O (get s))) := by intro _; rfl) (hP : ∀ s t, Γ (put s t) = (Γ s).set i (.bo j (O t)) := by intro _ _; rfl) (hΓ : ∀ s t, pureFrom (own.map (·.2)) 0 (Γ (put s t)) = pureFrom (own.map (·.2)) 0 (Γ s) := by intro _ _; rfl)
    (gp : ∀ s t, get (put s t) = t := by intro _ _; rfl) (pp : ∀ s t t', put (put s t) t' = put s t' := by intro _ _ _; rfl) (pg : ∀ s, put s (get s) = s := by intro _; rfl)
    (hu : ∀ Γ x, (up Γ x)[i]? = Γ[i]? := by intro _ _; exact List.getElem?_set_ne (by decide)) (hiv : i ∉ own.map (·.2) := by decide)
    (hsw : swapsWith (.ListComp elt [⟨tg, it, [], 0⟩] scope pos) (some (.Name y py)) spos.line X.env = pure true := by exact sw_true rfl rfl rfl (by decide +kernel)) (hy : X.N[l]? = some y := by rfl) (hyl : X.env.scope.names.lookup y = some .local := by rfl)
    (hj : ∀ j ∈ js, j ∈ own.map (·.2) := by decide) (hc : X.calm = true := by rfl) (hs : ∀ x, foldedSetIterable it X.env x = pure x := by intro _; rfl) :
    PS X (.Assign [.Name y py] (.ListComp elt [⟨tg, it, [], 0⟩] scope pos) spos) (tAsg (tE B Γ (RLst Rb) (fun s K => mi s fun xs s1 => xs.length ≤ 1000000 ∧ mMapS xs (me s1) (get s1) fun ys t => K ys (put s1 t))) (gName l)) :=
  ps_imp (ps_setLc hc nd hy hyl hsw hi ok hg (fun _ _ _ _ _ => pts_go) (fun s H C cl fp => pe_ex fun z : S × α × Bs => he z.1 z.2.1 z.2.2 j s H C cl fp) hs)
    fun D σ H q => lc_readJ (i := i) (j := j) (get := get) (put := put) tgt (fun s F H A => by
      obtain ⟨o, h1, h2, h3, h4, _⟩ := A.bo (hG s)
      exact ⟨h2, o, h1, h3, h4⟩) (fun A eF eH sb nw fj hj ho => At.backB hG hP A eF eH sb nw fj hj ho) (fun z _ _ _ h => ⟨z, h⟩) (fun s t t' => by rw [hP, hP, owA_set_bo (hG s), owA_set_bo (hG s)]) gp pp pg (fun s => pur_pure _ 0 _) hΓ hj hiv hu (fun s k hk => pure_any _ 0 _ k (by simpa using hk)) (tn_e q)

theorem ps_mapO {mi : S → (List α → S → Prop) → Prop} {me : S → α → T → (β → T → Prop) → Prop} {l : Nat} (i : Nat) (get : S → T) (put : S → T → S) (nd : X.N.Nodup) (hi : PI X tg it (tI B Γ R mi)) (ok : BlkOk X.N X.env.scope scope own)
    (hg : ∀ (s : Shared) (H : Hp) (C : Addr) (cl : List (Str × Addr)) (fp : List Addr), PG (X.blk s H scope (compEnvC scope cl C X.env) fp) tg g) (tgt : Tg g R js up)
    (he : ∀ (s1 : S) (x : α) (B' : Bs) (j : Addr) (s : Shared) (H : Hp) (C : Addr) (cl : List (Str × Addr)) (fp : List Addr), PE (X.blk s H scope (compEnvC scope cl C X.env) fp) elt (tE B' (fun t : T => up ((pureFrom (own.map (·.2)) 0 (Γ s1)).set i (.bo j (O t))) x) Rb (me s1 x)))
    (hG : ∀ s, (Γ s)[i]? = some (.ow (O (get s))) := by intro _; rfl) (hP : ∀ s t, Γ (put s t) = (Γ s).set i (.ow (O t)) := by intro _ _; rfl) (hΓ : ∀ s t, pureFrom (own.map (·.2)) 0 (Γ (put s t)) = pureFrom (own.map (·.2)) 0 (Γ s) := by intro _ _; rfl)
    (gp : ∀ s t, get (put s t) = t := by intro _ _; rfl) (pp : ∀ s t t', put (put s t) t' = put s t' := by intro _ _ _; rfl) (pg : ∀ s, put s (get s) = s := by intro _; rfl)
    (hu : ∀ Γ x, (up Γ x)[i]? = Γ[i]? := by intro _ _; exact List.getElem?_set_ne (by decide)) (hiv : i ∉ own.map (·.2) := by decide)
    (hsw : swapsWith (.ListComp elt [⟨tg, it, [], 0⟩] scope pos) (some (.Name y py)) spos.line X.env = pure true := by exact sw_true rfl rfl rfl (by decide +kernel)) (hy : X.N[l]? = some y := by rfl) (hyl : X.env.scope.names.lookup y = some .local := by rfl)
    (hj : ∀ j ∈ js, j ∈ own.map (·.2) := by decide) (hc : X.calm = true := by rfl) (hs : ∀ x, foldedSetIterable it X.env x = pure x := by intro _; rfl) :
    PS X (.Assign [.Name y py] (.ListComp elt [⟨tg, it, [], 0⟩] scope pos) spos) (tAsg (tE B Γ (RLst Rb) (fun s K => mi s fun xs s1 => xs.length ≤ 1000000 ∧ mMapS xs (me s1) (get s1) fun ys t => K ys (put s1 t))) (gName l)) :=
  ps_imp (ps_setLc hc nd hy hyl hsw hi ok hg (fun _ _ _ _ _ => pts_go) (fun s H C cl fp => pe_ex fun z : Addr × S × α × Bs => he z.2.1 z.2.2.1 z.2.2.2 z.1 s H C cl fp) hs)
    fun D σ H q => by
      obtain ⟨s0, F0, K0, A0, hm0, k0⟩ := id q
      obtain ⟨j, o0, h1, _⟩ := A0.ow (hG s0)
      exact lc_readJ (i := i) (j := j) (get := get) (put := put) (me := me) (Γp := fun s => pureFrom (own.map (·.2)) 0 (Γ s)) tgt (fun s F H A => by
        obtain ⟨j', o, g1, g2, g3, g4, _⟩ := A.ow (hG s)
        rw [h1] at g1
        cases g1
        exact ⟨g2, o, h1, g3, g4⟩) (fun A eF eH sb nw fj hj ho => At.backO hG hP A h1 eF eH sb nw fj hj ho) (fun z _ _ _ h => ⟨(j, z), h⟩) (fun s t t' => by rw [hP, hP, owA_set_ow (hG s), owA_set_ow (hG s)]) gp pp pg (fun s => pur_pure _ 0 _) hΓ hj hiv hu (fun s k hk => pure_any _ 0 _ k (by simpa using hk)) (tn_e q)
end
end TL
namespace TL
open PySem L2

/-! ### many values at once: some known, some new and owned -/
inductive Vk where
  | im (P : Pd)
  | ow (O : Od)
def Vk.sl : Vk → Sl
  | .im P => .im P
  | .ow O => .ow O
def ownV : List Vk → List V → List Addr
  | .ow _ :: ks, .ref p :: vs => p :: ownV ks vs
  | _ :: ks, _ :: vs => ownV ks vs
  | _, _ => []
def VkOk (B : Bs) (Γ : List Sl) (σ : L2.St) (F H : Hp) : List Vk → List V → Prop
  | [], [] => True
  | .im P :: ks, v :: vs => P.p v F ∧ VkOk B Γ σ F H ks vs
  | .ow O :: ks, v :: vs => (∃ p o, v = .ref p ∧ F p = none ∧ H p = some o ∧ O.p o F ∧ B.H p = none ∧ p ∉ owA Γ σ) ∧ VkOk B Γ σ F H ks vs
  | _, _ => False
def setS : L2.St → List Nat → List V → L2.St
  | σ, i :: is, v :: vs => setS (σ.set i (some v)) is vs
  | σ, _, _ => σ
def setG : List Sl → List Nat → List Vk → List Sl
  | Γ, i :: is, k :: ks => setG (Γ.set i k.sl) is ks
  | Γ, _, _ => Γ
section
variable {B : Bs} {Γ : List Sl} {σ : L2.St} {F H : Hp}
theorem VkOk.len : ∀ {ks : List Vk} {vs : List V}, VkOk B Γ σ F H ks vs → vs.length = ks.length
  | [], [], _ => rfl
  | .im _ :: _, _ :: _, h => by simp [VkOk.len h.2]
  | .ow _ :: _, _ :: _, h => by simp [VkOk.len h.2]
  | [], _ :: _, h => h.elim
  | .im _ :: _, [], h => h.elim
  | .ow _ :: _, [], h => h.elim
theorem VkOk.own : ∀ {ks : List Vk} {vs : List V} {p : Addr}, VkOk B Γ σ F H ks vs → p ∈ ownV ks vs → F p = none ∧ (∃ o, H p = some o) ∧ B.H p = none ∧ p ∉ owA Γ σ
  | .im _ :: ks, v :: vs, p, h, m => by
    have m : p ∈ ownV ks vs := by cases v <;> exact m
    exact VkOk.own h.2 m
  | .ow _ :: ks, v :: vs, p, h, m => by
    obtain ⟨⟨q, o, h1, h2, h3, h4, h5, h6⟩, hr⟩ := h
    subst h1
    rcases List.mem_cons.mp (show p ∈ q :: ownV ks vs from m) with e | e
    · subst e; exact ⟨h2, ⟨o, h3⟩, h5, h6⟩
    · exact VkOk.own hr e
  | [], _, p, h, m => by cases m
  | .im _ :: _, [], p, h, m => h.elim
  | .ow _ :: _, [], p, h, m => h.elim
theorem VkOk.to {W : List Addr} {B' : Bs} {Γ' : List Sl} {σ' : L2.St} {F' H' : Hp} (eF : Same F F') (h1 : ∀ p o, F p = none → H p = some o → B.H p = none → p ∉ owA Γ σ → p ∈ W → F' p = none ∧ H' p = some o ∧ B'.H p = none ∧ p ∉ owA Γ' σ') :
    ∀ {ks : List Vk} {vs : List V}, (∀ p ∈ ownV ks vs, p ∈ W) → VkOk B Γ σ F H ks vs → VkOk B' Γ' σ' F' H' ks vs
  | [], [], _, _ => trivial
  | .im P :: ks, v :: vs, w, h => ⟨P.mono _ _ _ eF h.1, VkOk.to eF h1 (fun p hp => w p (by cases v <;> exact hp)) h.2⟩
  | .ow O :: ks, v :: vs, w, h => by
    obtain ⟨⟨q, o, g1, g2, g3, g4, g5, g6⟩, hr⟩ := h
    subst g1
    obtain ⟨e1, e2, e3, e4⟩ := h1 q o g2 g3 g5 g6 (w q List.mem_cons_self)
    exact ⟨⟨q, o, rfl, e1, e2, O.mono _ _ _ eF g4, e3, e4⟩, VkOk.to eF h1 (fun p hp => w p (List.mem_cons_of_mem _ hp)) hr⟩
  | [], _ :: _, _, h => h.elim
  | .im _ :: _, [], _, h => h.elim
  | .ow _ :: _, [], _, h => h.elim
theorem At.setMany : ∀ {ks : List Vk} {vs : List V} {is : List Nat} {Γ : List Sl} {σ : L2.St}, At B Γ σ F H → VkOk B Γ σ F H ks vs → (ownV ks vs).Nodup → At B (setG Γ is ks) (setS σ is vs) F H
  | [], [], [], _, _, A, _, _ => A
  | [], [], _ :: _, _, _, A, _, _ => A
  | .im P :: ks, v :: vs, [], _, _, A, _, _ => A
  | .ow O :: ks, v :: vs, [], _, _, A, _, _ => A
  | .im P :: ks, v :: vs, i :: is, Γ, σ, A, h, n => by
    have n : (ownV ks vs).Nodup := by cases v <;> exact n
    have A1 := A.setIm (i := i) h.1
    refine At.setMany (Γ := Γ.set i (.im P)) A1 (h.2.to (W := ownV ks vs) (Same.refl F) (fun p o e1 e2 e3 e4 _ => ⟨e1, e2, e3, fun z => ?_⟩) fun _ z => z) n
    rcases mem_owA_set z with z | z
    · exact nomatch z
    · exact e4 z
  | .ow O :: ks, v :: vs, i :: is, Γ, σ, A, h, n => by
    obtain ⟨⟨q, o, g1, g2, g3, g4, g5, g6⟩, hr⟩ := h
    subst g1
    have n : (q :: ownV ks vs).Nodup := n
    obtain ⟨n1, n2⟩ := List.nodup_cons.mp n
    have A1 := A.setOw (i := i) g2 g3 g5 g6 g4
    refine At.setMany (Γ := Γ.set i (.ow O)) A1 (hr.to (W := ownV ks vs) (Same.refl F) (fun p o e1 e2 e3 e4 hw => ⟨e1, e2, e3, fun z => ?_⟩) fun _ z => z) n2
    rcases mem_owA_set z with z | z
    · have e : p = q := by simpa [ownS] using z
      subst e
      exact n1 hw
    · exact e4 z
  | [], _ :: _, _, _, _, _, h, _ => h.elim
  | .im _ :: _, [], _, _, _, _, h, _ => h.elim
  | .ow _ :: _, [], _, _, _, _, h, _ => h.elim
/-- a new object that nobody owns yet is kept aside -/
def Bs.hold (B : Bs) (p : Addr) (o : HO) : Bs := { B with H := upd B.H p o }
theorem Fits.hold {p : Addr} {o : HO} : ∀ {Γ : List Sl} {σ : L2.St}, Fits B F H Γ σ → p ∉ owA Γ σ → Fits (B.hold p o) F H Γ σ
  | [], [], _, _ => trivial
  | s :: Γ, x :: σ, h, n => by
    have n : p ∉ ownS s x ++ owA Γ σ := n
    refine ⟨?_, Fits.hold h.2 fun z => n (List.mem_append_right _ z)⟩
    have h1 := h.1
    cases s with
    | any => trivial
    | im P => exact h1
    | ow O =>
      obtain ⟨q, o', z1, z2, z3, z4, z5⟩ := h1
      subst z1
      have nq : q ≠ p := fun z => n (List.mem_append_left _ (by simp [ownS, z]))
      exact ⟨q, o', rfl, z2, z3, z4, (upd_ne nq).trans z5⟩
    | bo j O => exact h1
  | [], _ :: _, h, _ => h.elim
  | _ :: _, [], h, _ => h.elim
theorem Fits.unhold {p : Addr} {o : HO} (bp : B.H p = none) (nb : ¬ B.bor p) : ∀ {Γ : List Sl} {σ : L2.St}, Fits (B.hold p o) F H Γ σ → Fits B F H Γ σ ∧ p ∉ owA Γ σ
  | [], [], _ => ⟨trivial, by simp [owA]⟩
  | s :: Γ, x :: σ, h => by
    obtain ⟨r1, r2⟩ := Fits.unhold (Γ := Γ) (σ := σ) bp nb h.2
    have h1 := h.1
    cases s with
    | any => exact ⟨⟨trivial, r1⟩, by intro z; rcases List.mem_append.mp (show p ∈ ownS _ _ ++ owA Γ σ from z) with z | z; exact nomatch z; exact r2 z⟩
    | im P => exact ⟨⟨h1, r1⟩, by intro z; rcases List.mem_append.mp (show p ∈ ownS _ _ ++ owA Γ σ from z) with z | z; exact nomatch z; exact r2 z⟩
    | ow O =>
      obtain ⟨q, o', z1, z2, z3, z4, z5⟩ := h1
      subst z1
      have nq : q ≠ p := fun z => by
        subst z
        have z5 : upd B.H q o q = none := z5
        rw [upd_same] at z5
        cases z5
      refine ⟨⟨⟨q, o', rfl, z2, z3, z4, (upd_ne nq).symm.trans z5⟩, r1⟩, fun z => ?_⟩
      rcases List.mem_append.mp (show p ∈ ownS (.ow O) (some (.ref q)) ++ owA Γ σ from z) with z | z
      · have e : p = q := by simpa [ownS] using z
        exact nq e.symm
      · exact r2 z
    | bo j O =>
      obtain ⟨o', z1, z2, z3, z4, z5⟩ := h1
      subst z1
      refine ⟨⟨⟨o', rfl, z2, z3, z4, z5⟩, r1⟩, fun z => ?_⟩
      rcases List.mem_append.mp (show p ∈ ownS (.bo j O) (some (.ref j)) ++ owA Γ σ from z) with z | z
      · have e : p = j := by simpa [ownS] using z
        subst e
        exact nb z5
      · exact r2 z
  | [], _ :: _, h => h.elim
  | _ :: _, [], h => h.elim
theorem At.hold (A : At B Γ σ F H) {p : Addr} {o : HO} (fp : F p = none) (hp : H p = some o) (bp : B.H p = none) (n : p ∉ owA Γ σ) : At (B.hold p o) Γ σ F H := by
  have nb : ¬ B.bor p := fun z => by obtain ⟨_, _, o, h⟩ := A.bob p z; rw [bp] at h; cases h
  refine ⟨A.sub, A.ext, fun a u g hb => ?_, fun a u g => ?_, A.fit.hold n, A.dis, fun a hb => ?_, A.pin⟩
  · by_cases ha : a = p
    · subst ha; rw [show (B.hold a o).H a = some o from upd_same] at g; cases g; exact hp
    · rw [show (B.hold p o).H a = B.H a from upd_ne ha] at g; exact A.kept _ _ g hb
  · have na : a ≠ p := fun z => by subst z; rw [fp] at g; cases g
    rw [show (B.hold p o).H a = B.H a from upd_ne na]
    exact A.new _ _ g
  · obtain ⟨h1, h2, u, h3⟩ := A.bob a hb
    have na : a ≠ p := fun z => nb (z ▸ hb)
    exact ⟨h1, h2, u, (upd_ne na).trans h3⟩
theorem At.unhold {p : Addr} {o : HO} {F0 H0 : Hp} {Γ0 : List Sl} (A0 : At B Γ0 σ F0 H0) (f0 : F0 p = none) (bp : B.H p = none) (A : At (B.hold p o) Γ σ F H) (e : Same F0 F) : At B Γ σ F H ∧ F p = none ∧ H p = some o ∧ p ∉ owA Γ σ := by
  have nb : ¬ B.bor p := fun z => by obtain ⟨_, _, o, h⟩ := A0.bob p z; rw [bp] at h; cases h
  obtain ⟨r1, r2⟩ := A.fit.unhold bp nb
  have fp : F p = none := by
    cases q : F p with
    | none => rfl
    | some u =>
      rcases A.new p u q with z | z
      · have z : B.F p = some u := z
        rw [A0.ext _ _ z] at f0; cases f0
      · rw [show (B.hold p o).H p = some o from upd_same] at z; cases z
  refine ⟨⟨A.sub, A.ext, fun a u g hb => ?_, fun a u g => ?_, r1, A.dis, fun a hb => ?_, A.pin⟩, fp, A.kept p o upd_same nb, r2⟩
  · have na : a ≠ p := fun z => by subst z; rw [bp] at g; cases g
    exact A.kept a u ((upd_ne na).trans g) hb
  · rcases A.new a u g with z | z
    · exact .inl z
    · by_cases na : a = p
      · subst na; exact .inr bp
      · exact .inr ((upd_ne na).symm.trans z)
  · obtain ⟨h1, h2, u, h3⟩ := A.bob a hb
    have na : a ≠ p := fun z => nb (z ▸ hb)
    exact ⟨h1, h2, u, (upd_ne na).symm.trans h3⟩
end
def tM {S ι : Type} (B : Bs) (Γ : S → List Sl) (Ks : ι → List Vk) (m : S → (ι → S → Prop) → Prop) : TA := fun σ H Q =>
  ∃ s F K, At B (Γ s) σ F H ∧ m s K ∧ ∀ x s' vs F' H', K x s' → At B (Γ s') σ F' H' → Same F F' → VkOk B (Γ s') σ F' H' (Ks x) vs → (ownV (Ks x) vs).Nodup → Q vs H'
section
variable {X : Cx} {S S' : Type} {B : Bs} {Γ : S → List Sl} {K : PySem.W.Frag} {α β γ ι κ : Type} {R Ra : α → Pd} {e a b c : Expr} {es : List Expr} {pos p : Pos}
variable {m ma : S → (α → S → Prop) → Prop} {Ks : ι → List Vk} {mr : S → (ι → S → Prop) → Prop}
theorem pa_ex {i : Type} {t : i → TA} (h : ∀ j, PA X es (t j)) : PA X es (fun σ H Q => ∃ j, t j σ H Q) := ⟨fun pos pins s σ H Q I ⟨j, q⟩ => (h j).run pos pins s σ H Q I q⟩
theorem tm_nil : PA X [] (tM B Γ (fun _ : Unit => []) (fun s K => K () s)) := pa_imp pa_nil fun σ H Q ⟨s, F, K', A, hm, k⟩ => k () s [] F H hm A (Same.refl F) trivial List.Pairwise.nil
theorem ownV_im {P : Pd} {ks : List Vk} {v : V} {vs : List V} : ownV (.im P :: ks) (v :: vs) = ownV ks vs := by cases v <;> rfl
theorem tm_e (h : PE X e (tE B Γ R m)) (hr : PA X es (tM B Γ Ks mr)) (hs : starEach (e :: es) X.env = (false, eval e X.env) :: starEach es X.env := by rfl) : PA X (e :: es) (tM B Γ (fun y : α × ι => .im (R y.1) :: Ks y.2) (fun s K => m s fun x s1 => mr s1 fun y s2 => K (x, y) s2)) :=
  pa_imp (pa_cons h hr hs) fun σ H Q ⟨s, F, K', A, hm, k⟩ => ⟨s, F, _, A, hm, fun x s1 v F1 H1 q1 A1 e1 r1 => ⟨s1, F1, _, A1, q1, fun y s2 vs F2 H2 q2 A2 e2 r2 n2 => k (x, y) s2 (v :: vs) F2 H2 q2 A2 (e1.trans e2) ⟨(R x).mono _ _ _ e2 r1, r2⟩ (by rw [ownV_im]; exact n2)⟩⟩
theorem tm_n {m : S → (List α → S → Prop) → Prop} (h : PE X e (tN B Γ R m)) (hr : ∀ p o, PA X es (tM (B.hold p o) Γ Ks mr)) (hs : starEach (e :: es) X.env = (false, eval e X.env) :: starEach es X.env := by rfl) : PA X (e :: es) (tM B Γ (fun y : List α × ι => .ow (OList R y.1) :: Ks y.2) (fun s K => m s fun x s1 => mr s1 fun y s2 => K (x, y) s2)) :=
  pa_imp (pa_cons h (pa_ex fun z : Addr × HO => hr z.1 z.2) hs) fun σ H Q ⟨s, F, K', A, hm, k⟩ => ⟨s, F, _, A, hm, fun xs s1 p vs F1 H1 q1 A1 e1 hp fp bp np av => ⟨(p, .lst vs), s1, F1, _, A1.hold fp hp bp np, q1, fun y s2 ws F2 H2 q2 A2 e2 r2 n2 => by
    obtain ⟨A3, f3, h3, n3⟩ := A1.unhold fp bp A2 e2
    have np2 : ∀ q ∈ ownV (Ks y) ws, q ≠ p := fun q hq z => by
      obtain ⟨_, _, z2, _⟩ := r2.own hq
      subst z
      rw [show (B.hold q (.lst vs)).H q = some (.lst vs) from upd_same] at z2
      cases z2
    refine k (xs, y) s2 (.ref p :: ws) F2 H2 q2 A3 (e1.trans e2) ⟨⟨p, _, rfl, f3, h3, ⟨vs, rfl, av.mono e2⟩, bp, n3⟩, r2.to (W := ownV (Ks y) ws) (Same.refl _) (fun q o z1 z2 z3 z4 hw => ⟨z1, z2, (upd_ne (np2 q hw)).symm.trans z3, z4⟩) fun _ z => z⟩ ?_
    exact List.nodup_cons.mpr ⟨fun z => np2 p z rfl, n2⟩⟩⟩
/-- many names get values -/
def tMul (is : List Nat) (ta : TA) : TS := fun D σ H => ta σ H fun vs H1 => vs.length = is.length ∧ D.nx (setS σ is vs) H1 ∧ ∀ p, H1 p = none → D.nx (setS σ is vs) (upd H1 p (.tup vs))
theorem ps_mul2 {i j : Nat} {ta : TA} {st : Stmt} (h : PS X st (tPar i j ta)) (mono : ∀ σ H (Q Q' : List V → Hp → Prop), (∀ vs H, Q vs H → Q' vs H) → ta σ H Q → ta σ H Q') : PS X st (tMul [i, j] ta) :=
  ps_imp h fun D σ H q => mono _ _ _ _ (fun vs H1 ⟨h1, h2, _⟩ => by
    match vs, h1, h2 with
    | [v, w], _, h2 => exact ⟨v, w, rfl, h2⟩) q
theorem ps_mul3 {i j l : Nat} {ta : TA} {st : Stmt} (h : PS X st (tPar3 i j l ta)) (mono : ∀ σ H (Q Q' : List V → Hp → Prop), (∀ vs H, Q vs H → Q' vs H) → ta σ H Q → ta σ H Q') : PS X st (tMul [i, j, l] ta) :=
  ps_imp h fun D σ H q => mono _ _ _ _ (fun vs H1 ⟨h1, h2, _⟩ => by
    match vs, h1, h2 with
    | [u, v, w], _, h2 => exact ⟨u, v, w, rfl, h2⟩) q
def gNames : List Nat → TGs
  | [] => gNil
  | i :: is => gCons (gName i) (gNames is)
theorem gNames_of : ∀ {is : List Nat} {vs : List V} {σ : L2.St} {H : Hp} {Q : L2.St → Hp → Prop}, vs.length = is.length → Q (setS σ is vs) H → gNames is vs σ H Q
  | [], [], _, _, _, _, h => ⟨rfl, h⟩
  | i :: is, v :: vs, σ, H, Q, hl, h => ⟨v, vs, rfl, gNames_of (by simpa using hl) h⟩
  | [], _ :: _, _, _, _, hl, _ => by simp at hl
  | _ :: _, [], _, _, _, hl, _ => by simp at hl
theorem tM_mono : ∀ σ H (Q Q' : List V → Hp → Prop), (∀ vs H, Q vs H → Q' vs H) → tM B Γ Ks mr σ H Q → tM B Γ Ks mr σ H Q' := fun σ H Q Q' i ⟨s, F, K', A, hm, k⟩ => ⟨s, F, K', A, hm, fun x s' vs F' H' a b c d e => i _ _ (k x s' vs F' H' a b c d e)⟩
/-- by way of a tuple -/
theorem ps_mulT {is : List Nat} {ta : TA} {st : Stmt} (h : PS X st (tAsg (fun σ H Q => ta σ H fun vs H1 => vs.length ≤ sizeLine ∧ ∀ p, H1 p = none → Q (.ref p) (upd H1 p (.tup vs))) (gTup X.K is.length (gNames is)))) (hn : is.length ≤ 1000 := by decide)
    (mono : ∀ σ H (Q Q' : List V → Hp → Prop), (∀ vs H, Q vs H → Q' vs H) → ta σ H Q → ta σ H Q') : PS X st (tMul is ta) :=
  ps_imp h fun D σ H q => mono _ _ _ _ (fun vs H1 ⟨h1, _, h3⟩ => ⟨by rw [h1]; exact smallLen (by omega), fun p np => ⟨p, vs, rfl, SqT.of upd_same, h1, gNames_of h1 (h3 p np)⟩⟩) q
theorem ts_mul {is : List Nat} {st : Stmt} {rest : List Stmt} {P : Xt} {fk : ι → κ} {mk : S → ι → S'} {Γ' : κ → S' → List Sl} {mn : κ → S' → Prop} (h : PS X st (tMul is (tM B Γ Ks mr))) (hG : ∀ s x, Γ' (fk x) (mk s x) = setG (Γ s) is (Ks x)) (hn : ∀ x, (Ks x).length = is.length)
    (hr : ∀ y, PSs X rest (tS B (Γ' y) P (mn y))) : PSs X (st :: rest) (tS B Γ P (fun s => mr s fun x s1 => mn (fk x) (mk s1 x))) :=
  pss_imp (pss_cons h (pss_ex hr)) fun D σ H ⟨s, F, A, hm, L⟩ => ⟨s, F, _, A, hm, fun x s1 vs F1 H1 q1 A1 e1 r1 n1 => ⟨by rw [r1.len, hn],
    ⟨fk x, mk s1 x, F1, by rw [hG]; exact A1.setMany r1 n1, q1, L⟩, fun p np => ⟨fk x, mk s1 x, F1, by
      rw [hG]
      have A2 := A1.layH (o := .tup vs) np
      refine A2.setMany (r1.to (W := ownV (Ks x) vs) (Same.refl _) (fun q o z1 z2 z3 z4 _ => ⟨z1, (upd_ne (fun z => by subst z; rw [np] at z2; cases z2)).trans z2, z3, z4⟩) fun _ z => z) n1, q1, L⟩⟩⟩
/-- a, b = e: a tuple is taken apart -/
theorem ts_unp {is : List Nat} {st : Stmt} {rest : List Stmt} {P : Xt} {As : ι → List Pd} {mi : S → (ι → S → Prop) → Prop} {mn : ι → S → Prop} {Γ' : ι → S → List Sl} (h : PS X st (tAsg (tE B Γ (RTn X.K As) mi) (gTup X.K is.length (gNames is)))) (hG : ∀ s x, Γ' x s = setG (Γ s) is ((As x).map .im)) (hn : ∀ x, (As x).length = is.length)
    (hr : ∀ y, PSs X rest (tS B (Γ' y) P (mn y))) : PSs X (st :: rest) (tS B Γ P (fun s => mi s fun x s1 => mn x s1)) :=
  pss_imp (pss_cons h (pss_ex hr)) fun D σ H ⟨s, F, A, hm, L⟩ => ⟨s, F, _, A, hm, fun x s1 v F1 H1 q1 A1 e1 ⟨t, vs, g1, g2, g3⟩ => by
    subst g1
    refine ⟨t, vs, rfl, seqT_mono A1.sub g2, by rw [g3.len, hn], gNames_of (by rw [g3.len, hn]) ⟨x, s1, F1, ?_, q1, L⟩⟩
    rw [hG]
    have go : ∀ {Ps : List Pd} {ws : List V}, AllP Ps ws F1 → VkOk B (Γ s1) σ F1 H1 (Ps.map .im) ws ∧ ownV (Ps.map .im) ws = [] := by
      intro Ps
      induction Ps with
      | nil => intro ws h; cases ws with | nil => exact ⟨trivial, rfl⟩ | cons => exact h.elim
      | cons Q Ps ih =>
        intro ws h
        cases ws with
        | nil => exact h.elim
        | cons w ws =>
          obtain ⟨r1, r2⟩ := ih h.2
          exact ⟨⟨h.1, r1⟩, by rw [List.map_cons, ownV_im]; exact r2⟩
    obtain ⟨r1, r2⟩ := go g3
    exact A1.setMany r1 (by rw [r2]; exact List.Pairwise.nil)⟩
theorem te_pairTn {Ra : α → Pd} {Rb : β → Pd} {m : S → (α × β → S → Prop) → Prop} (h : PE X e (tE B Γ (RPair K Ra Rb) m)) : PE X e (tE B Γ (RTn K (acons Ra (acons Rb anil))) (fun s K => m s fun x s1 => K (x.1, x.2, ()) s1)) :=
  pe_imp h fun σ H Q ⟨s, F, K', A, hm, k⟩ => ⟨s, F, _, A, hm, fun x s1 v F1 H1 q1 A1 e1 ⟨t, v1, v2, g1, g2, g3, g4⟩ => k (x.1, x.2, ()) s1 v F1 H1 q1 A1 e1 ⟨t, [v1, v2], g1, g2, g3, g4, trivial⟩⟩
end
end TL
namespace TL
open PySem L2

/-! ### new objects of any kind -/
def tW {S α : Type} (B : Bs) (Γ : S → List Sl) (O : α → Od) (m : S → (α → S → Prop) → Prop) : TE := fun σ H Q =>
  ∃ s F K, At B (Γ s) σ F H ∧ m s K ∧ ∀ x s' p o F' H', K x s' → At B (Γ s') σ F' H' → Same F F' → H' p = some o → F' p = none → B.H p = none → p ∉ owA (Γ s') σ → (O x).p o F' → Q (.ref p) H'
section
variable {X : Cx} {S S' : Type} {B : Bs} {Γ : S → List Sl} {K : PySem.W.Frag} {α β γ ι κ : Type} {R : α → Pd} {O : α → Od} {e a b c : Expr} {es : List Expr} {pos p : Pos} {m : S → (α → S → Prop) → Prop} {Ks : ι → List Vk} {mr : S → (ι → S → Prop) → Prop} {st : Stmt} {rest : List Stmt} {P : Xt}
theorem tw_n {m : S → (List α → S → Prop) → Prop} (h : PE X e (tN B Γ R m)) : PE X e (tW B Γ (OList R) m) :=
  pe_imp h fun σ H Q ⟨s, F, K', A, hm, k⟩ => ⟨s, F, K', A, hm, fun xs s' p vs F' H' kx A' e' hp fp bp np av => k xs s' p _ F' H' kx A' e' hp fp bp np ⟨vs, rfl, av⟩⟩
theorem tm_w (h : PE X e (tW B Γ O m)) (hr : ∀ p o, PA X es (tM (B.hold p o) Γ Ks mr)) (hs : starEach (e :: es) X.env = (false, eval e X.env) :: starEach es X.env := by rfl) : PA X (e :: es) (tM B Γ (fun y : α × ι => .ow (O y.1) :: Ks y.2) (fun s K => m s fun x s1 => mr s1 fun y s2 => K (x, y) s2)) :=
  pa_imp (pa_cons h (pa_ex fun z : Addr × HO => hr z.1 z.2) hs) fun σ H Q ⟨s, F, K', A, hm, k⟩ => ⟨s, F, _, A, hm, fun xs s1 p ob F1 H1 q1 A1 e1 hp fp bp np av => ⟨(p, ob), s1, F1, _, A1.hold fp hp bp np, q1, fun y s2 ws F2 H2 q2 A2 e2 r2 n2 => by
    obtain ⟨A3, f3, h3, n3⟩ := A1.unhold fp bp A2 e2
    have np2 : ∀ q ∈ ownV (Ks y) ws, q ≠ p := fun q hq z => by
      obtain ⟨_, _, z2, _⟩ := r2.own hq
      subst z
      rw [show (B.hold q ob).H q = some ob from upd_same] at z2
      cases z2
    refine k (xs, y) s2 (.ref p :: ws) F2 H2 q2 A3 (e1.trans e2) ⟨⟨p, _, rfl, f3, h3, (O xs).mono _ _ _ e2 av, bp, n3⟩, r2.to (W := ownV (Ks y) ws) (Same.refl _) (fun q o z1 z2 z3 z4 hw => ⟨z1, z2, (upd_ne (np2 q hw)).symm.trans z3, z4⟩) fun _ z => z⟩ ?_
    exact List.nodup_cons.mpr ⟨fun z => np2 p z rfl, n2⟩⟩⟩
theorem te_w (h : PE X e (tW B Γ O m)) (hP : ∀ x p o F', (O x).p o F' → F' p = some o → (R x).p (.ref p) F') : PE X e (tE B Γ R m) :=
  pe_imp h fun σ H Q ⟨s, F, K', A, hm, k⟩ => ⟨s, F, K', A, hm, fun x s' p o F' H' kx A' e' hp fp bp np av => by
    obtain ⟨A2, sF⟩ := A'.know fp hp bp np
    exact k x s' (.ref p) (upd F' p o) H' kx A2 (e'.trans sF) (hP x p o _ ((O x).mono _ _ _ sF av) upd_same)⟩
theorem ts_setW {i : Nat} {Γ' : S' → List Sl} {mk : S → α → S'} {mr : S' → Prop} (h : PS X st (tAsg (tW B Γ O m) (gName i))) (hG : ∀ s x, Γ' (mk s x) = (Γ s).set i (.ow (O x))) (hr : PSs X rest (tS B Γ' P mr)) : PSs X (st :: rest) (tS B Γ P (fun s => m s fun x s1 => mr (mk s1 x))) :=
  pss_imp (pss_cons h hr) fun D σ H ⟨s, F, A, hm, L⟩ => ⟨s, F, _, A, hm, fun x s1 q o F1 H1 h1 A1 e1 hq fq bq nq av => ⟨mk s1 x, F1, by rw [hG]; exact A1.setOw fq hq bq nq av, h1, L⟩⟩
theorem ts_freezeW {T : Type} {O : T → Od} {R : T → Pd} (i : Nat) {Γ' : S → List Sl} {get : S → T} {mr : S → Prop} (hP : ∀ x p o F', (O x).p o F' → F' p = some o → (R x).p (.ref p) F') (hG : ∀ s, (Γ s)[i]? = some (.ow (O (get s)))) (hG' : ∀ s, Γ' s = (Γ s).set i (.im (R (get s)))) (hr : PSs X rest (tS B Γ' P mr)) : PSs X rest (tS B Γ P mr) :=
  pss_imp hr fun D σ H ⟨s, F, A, hm, L⟩ => by
    obtain ⟨F', A', _⟩ := A.freeze (hG s) (P := R (get s)) fun q o F' h2 h3 => hP _ q o F' h2 h3
    exact ⟨s, F', by rw [hG']; exact A', hm, L⟩
end

/-! ### dicts -/
section
variable {κ α : Type} [DecidableEq κ]
def dget (d : List (κ × α)) (k : κ) : Option α := (d.find? fun kv => decide (kv.1 = k)).map (·.2)
def dput (d : List (κ × α)) (k : κ) (v : α) : List (κ × α) := if (d.any fun kv => decide (kv.1 = k)) = true then d.map (fun kv => if kv.1 = k then (kv.1, v) else kv) else d ++ [(k, v)]
def dmerge (d e : List (κ × α)) : List (κ × α) := e.foldl (fun acc kv => dput acc kv.1 kv.2) d
theorem dget_nil {k : κ} : dget ([] : List (κ × α)) k = none := rfl
theorem dget_pos {p : κ × α} {r : List (κ × α)} {k : κ} (e : p.1 = k) : dget (p :: r) k = some p.2 := by simp [dget, List.find?_cons, e]
theorem dget_neg {p : κ × α} {r : List (κ × α)} {k : κ} (e : ¬ p.1 = k) : dget (p :: r) k = dget r k := by simp [dget, List.find?_cons, e]
theorem dget_any (k : κ) : ∀ kvs : List (κ × α), (kvs.any fun kv => decide (kv.1 = k)) = (dget kvs k).isSome
  | [] => rfl
  | p :: r => by
    by_cases e : p.1 = k
    · rw [dget_pos e]; simp [e]
    · rw [dget_neg e, ← dget_any k r]; simp [e]
theorem dget_map (k j : κ) (y : α) : ∀ kvs : List (κ × α), dget (kvs.map fun kv => if kv.1 = k then (kv.1, y) else kv) j = (dget kvs j).map fun x => if j = k then y else x
  | [] => rfl
  | p :: r => by
    rw [List.map_cons]
    by_cases e : p.1 = j
    · by_cases f : p.1 = k
      · rw [if_pos f, dget_pos (by exact e), dget_pos e]
        simp [← e, f]
      · rw [if_neg f, dget_pos e, dget_pos e]
        have : ¬ j = k := fun z => f (e.trans z)
        simp [this]
    · have e2 : ¬ (if p.1 = k then (p.1, y) else p).1 = j := by split <;> exact e
      rw [dget_neg e2, dget_neg e, dget_map k j y r]
theorem dget_snoc (k j : κ) (y : α) : ∀ kvs : List (κ × α), dget kvs k = none → dget (kvs ++ [(k, y)]) j = if j = k then some y else dget kvs j
  | [], _ => by
    by_cases e : j = k
    · subst e; simp [dget]
    · have : ¬ k = j := fun z => e z.symm
      simp [dget, e, this]
  | p :: r, h => by
    have hp : ¬ p.1 = k := fun e => by rw [dget_pos e] at h; cases h
    rw [dget_neg hp] at h
    rw [List.cons_append]
    by_cases e : p.1 = j
    · rw [dget_pos e, dget_pos e, if_neg]
      rintro rfl
      exact hp e
    · rw [dget_neg e, dget_neg e, dget_snoc k j y r h]
theorem dget_put (kvs : List (κ × α)) (k j : κ) (y : α) : dget (dput kvs k y) j = if j = k then some y else dget kvs j := by
  unfold dput
  rw [dget_any]
  cases h : dget kvs k with
  | none =>
    rw [Option.isSome_none, if_neg Bool.false_ne_true]
    exact dget_snoc k j y kvs h
  | some z =>
    rw [Option.isSome_some, if_pos rfl, dget_map]
    by_cases e : j = k
    · subst e; rw [h]; simp
    · simp [e]
theorem dput_len (d : List (κ × α)) (k : κ) (v : α) : (dput d k v).length ≤ d.length + 1 := by
  unfold dput
  split
  · rw [List.length_map]; omega
  · rw [List.length_append, List.length_singleton]; omega
theorem dput_keys (d : List (κ × α)) (k : κ) (v : α) : (dput d k v).map (·.1) = if (dget d k).isSome = true then d.map (·.1) else d.map (·.1) ++ [k] := by
  unfold dput
  rw [dget_any]
  split
  · rw [List.map_map]
    refine List.map_congr_left fun x _ => ?_
    show (if x.1 = k then (x.1, v) else x).1 = x.1
    split <;> rfl
  · rw [List.map_append]; rfl
theorem dmerge_len (e : List (κ × α)) : ∀ d : List (κ × α), (dmerge d e).length ≤ d.length + e.length := by
  induction e with
  | nil => intro d; exact Nat.le_refl _
  | cons p e ih =>
    intro d
    have h1 := ih (dput d p.1 p.2)
    have h2 := dput_len d p.1 p.2
    show (dmerge (dput d p.1 p.2) e).length ≤ _
    rw [List.length_cons]
    omega
end
def AllD {κ α : Type} (R : α → Pd) : List (κ × α) → List (κ × V) → Hp → Prop
  | [], [], _ => True
  | (k, x) :: d, (k', v) :: kvs, F => k' = k ∧ (R x).p v F ∧ AllD R d kvs F
  | _, _, _ => False
section
variable {κ α : Type} {R : α → Pd} {F F' : Hp}
theorem AllD.mono (e : Same F F') : ∀ {d : List (κ × α)} {kvs : List (κ × V)}, AllD R d kvs F → AllD R d kvs F'
  | [], [], _ => trivial
  | (_, _) :: _, (_, _) :: _, ⟨h1, h2, h3⟩ => ⟨h1, (R _).mono _ _ _ e h2, AllD.mono e h3⟩
theorem AllD.len : ∀ {d : List (κ × α)} {kvs : List (κ × V)}, AllD R d kvs F → kvs.length = d.length
  | [], [], _ => rfl
  | (_, _) :: _, (_, _) :: _, ⟨_, _, h3⟩ => by simp [AllD.len h3]
theorem AllD.keys : ∀ {d : List (κ × α)} {kvs : List (κ × V)}, AllD R d kvs F → kvs.map (·.1) = d.map (·.1)
  | [], [], _ => rfl
  | (_, _) :: _, (_, _) :: _, ⟨h1, _, h3⟩ => by simp [AllD.keys h3, h1]
variable [DecidableEq κ]
theorem AllD.get (k : κ) : ∀ {d : List (κ × α)} {kvs : List (κ × V)}, AllD R d kvs F → (dget d k = none ∧ valV kvs k = none) ∨ ∃ x v, dget d k = some x ∧ valV kvs k = some v ∧ (R x).p v F
  | [], [], _ => .inl ⟨rfl, rfl⟩
  | (j, x) :: d, (j', v) :: kvs, ⟨h1, h2, h3⟩ => by
    subst h1
    by_cases e : j' = k
    · exact .inr ⟨x, v, dget_pos e, valV_pos e, h2⟩
    · rw [dget_neg (p := (j', x)) e, valV_neg (p := (j', v)) e]
      exact AllD.get k h3
theorem AllD.any (k : κ) : ∀ {d : List (κ × α)} {kvs : List (κ × V)}, AllD R d kvs F → (kvs.any fun kv => decide (kv.1 = k)) = (d.any fun kv => decide (kv.1 = k))
  | [], [], _ => rfl
  | (j, x) :: d, (j', v) :: kvs, ⟨h1, h2, h3⟩ => by
    subst h1
    simp only [List.any_cons]
    rw [AllD.any k h3]
theorem AllD.app : ∀ {d d2 : List (κ × α)} {kvs kvs2 : List (κ × V)}, AllD R d kvs F → AllD R d2 kvs2 F → AllD R (d ++ d2) (kvs ++ kvs2) F
  | [], _, [], _, _, h => h
  | (_, _) :: _, _, (_, _) :: _, _, ⟨h1, h2, h3⟩, h => ⟨h1, h2, AllD.app h3 h⟩
theorem AllD.repl (k : κ) {x : α} {v : V} (hv : (R x).p v F) : ∀ {d : List (κ × α)} {kvs : List (κ × V)}, AllD R d kvs F → AllD R (d.map fun kv => if kv.1 = k then (kv.1, x) else kv) (kvs.map fun kv => if kv.1 = k then (kv.1, v) else kv) F
  | [], [], _ => trivial
  | (j, y) :: d, (j', w) :: kvs, ⟨h1, h2, h3⟩ => by
    subst h1
    rw [List.map_cons, List.map_cons]
    by_cases e : j' = k
    · rw [if_pos e, if_pos e]
      exact ⟨rfl, hv, AllD.repl k hv h3⟩
    · rw [if_neg e, if_neg e]
      exact ⟨rfl, h2, AllD.repl k hv h3⟩
theorem AllD.put (k : κ) {x : α} {v : V} (hv : (R x).p v F) {d : List (κ × α)} {kvs : List (κ × V)} (h : AllD R d kvs F) : AllD R (dput d k x) (putK kvs k v) F := by
  unfold dput putK
  rw [h.any k]
  split
  · exact h.repl k hv
  · exact h.app ⟨rfl, hv, trivial⟩
end
/-- how keys are held -/
structure KeyT {κ : Type} [DecidableEq κ] (Rk : κ → Pd) (mkD : List (κ × V) → HO) : Prop where
  get : ∀ (x : κ) (v : V) (F H : Hp) (a : Addr) (kvs : List (κ × V)), (Rk x).p v F → Same F H → H a = some (mkD kvs) → DGet H a v (valV kvs x)
  put : ∀ (x : κ) (v : V) (F H : Hp) (a : Addr) (kvs : List (κ × V)) (y : V), (Rk x).p v F → Same F H → H a = some (mkD kvs) → kvs.length ≤ 1000000 → DPut H a v y (upd H a (mkD (putK kvs x y)))
  isd : ∀ (H : Hp) (a : Addr) (kvs : List (κ × V)), H a = some (mkD kvs) → IsD H a
def mkI (kvs : List (Int × V)) : HO := .dK (kvs.map fun p => (Sum.inl p.1, p.2))
def mkS (kvs : List (Str × V)) : HO := .dK (kvs.map fun p => (Sum.inr p.1, p.2))
def mkT (kvs : List (List Int × V)) : HO := .dT (kvs.map fun p => (p.1.map Sum.inl, p.2))
section
variable {κ κ' : Type} [DecidableEq κ] [DecidableEq κ'] {f : κ → κ'}
theorem valV_inj (hf : ∀ x y, f x = f y → x = y) (k : κ) : ∀ kvs : List (κ × V), valV (kvs.map fun p => (f p.1, p.2)) (f k) = valV kvs k
  | [] => rfl
  | p :: r => by
    rw [List.map_cons]
    by_cases e : p.1 = k
    · rw [valV_pos e, valV_pos (p := (f p.1, p.2)) (congrArg f e)]
    · rw [valV_neg e, valV_neg (p := (f p.1, p.2)) (fun z => e (hf _ _ z)), valV_inj hf k r]
theorem putK_inj (hf : ∀ x y, f x = f y → x = y) (k : κ) (v : V) (kvs : List (κ × V)) : putK (kvs.map fun p => (f p.1, p.2)) (f k) v = (putK kvs k v).map fun p => (f p.1, p.2) := by
  have h1 : ∀ kvs : List (κ × V), ((kvs.map fun p => (f p.1, p.2)).any fun kv => decide (kv.1 = f k)) = kvs.any fun kv => decide (kv.1 = k) := by
    intro kvs
    induction kvs with
    | nil => rfl
    | cons p r ih =>
      simp only [List.map_cons, List.any_cons]
      rw [ih]
      congr 1
      by_cases e : p.1 = k
      · simp [e]
      · have : ¬ f p.1 = f k := fun z => e (hf _ _ z)
        simp [e, this]
  unfold putK
  rw [h1]
  split
  · rw [List.map_map, List.map_map]
    refine List.map_congr_left fun p _ => ?_
    show (if f p.1 = f k then (f p.1, v) else (f p.1, p.2)) = (fun p : κ × V => (f p.1, p.2)) (if p.1 = k then (p.1, v) else p)
    by_cases e : p.1 = k
    · rw [if_pos e, if_pos (congrArg f e)]
    · rw [if_neg e, if_neg (fun z => e (hf _ _ z))]
  · rw [List.map_append]; rfl
end
theorem keyI : KeyT RInt mkI := ⟨fun x v F H a kvs hv e h => by
    have hv : v = kV (Sum.inl x) := hv
    subst hv
    have := DGet.k (k := Sum.inl x) h
    rwa [valV_inj (f := Sum.inl) (fun _ _ z => Sum.inl.inj z) x kvs] at this,
  fun x v F H a kvs y hv e h hl => by
    have hv : v = kV (Sum.inl x) := hv
    subst hv
    have := DPut.k (k := Sum.inl x) (v := y) h (by rw [List.length_map]; exact Nat.lt_of_le_of_lt hl (by decide))
    rwa [putK_inj (f := Sum.inl) (fun _ _ z => Sum.inl.inj z) x y kvs] at this,
  fun H a kvs h => .inl ⟨_, .inl h⟩⟩
theorem keyS : KeyT RStr mkS := ⟨fun x v F H a kvs hv e h => by
    have hv : v = kV (Sum.inr x) := hv
    subst hv
    have := DGet.k (k := Sum.inr x) h
    rwa [valV_inj (f := Sum.inr) (fun _ _ z => Sum.inr.inj z) x kvs] at this,
  fun x v F H a kvs y hv e h hl => by
    have hv : v = kV (Sum.inr x) := hv
    subst hv
    have := DPut.k (k := Sum.inr x) (v := y) h (by rw [List.length_map]; exact Nat.lt_of_le_of_lt hl (by decide))
    rwa [putK_inj (f := Sum.inr) (fun _ _ z => Sum.inr.inj z) x y kvs] at this,
  fun H a kvs h => .inl ⟨_, .inl h⟩⟩
/-- a tuple of ints that stands in the heap -/
def RTi (xs : List Int) : Pd := ⟨fun v F => ∃ a, v = .ref a ∧ F a = some (.tup (xs.map V.int)), fun _ _ _ e ⟨a, h1, h2⟩ => ⟨a, h1, e _ _ h2⟩⟩
theorem map_inl_inj : ∀ x y : List Int, x.map (Sum.inl (β := Str)) = y.map Sum.inl → x = y
  | [], [], _ => rfl
  | [], _ :: _, h => by simp at h
  | _ :: _, [], h => by simp at h
  | a :: x, b :: y, h => by
    simp only [List.map_cons, List.cons.injEq] at h
    obtain ⟨h1, h2⟩ := h
    rw [Sum.inl.inj h1, map_inl_inj x y h2]
theorem kV_map (x : List Int) : (x.map (Sum.inl (β := Str))).map kV = x.map V.int := by
  rw [List.map_map]; rfl
theorem keyT : KeyT RTi mkT := ⟨fun x v F H a kvs hv e h => by
    obtain ⟨b, h1, h2⟩ := hv
    subst h1
    have := DGet.t (k := x.map Sum.inl) h (by rw [kV_map]; exact e _ _ h2)
    rwa [valV_inj (f := fun x : List Int => x.map (Sum.inl (β := Str))) map_inl_inj x kvs] at this,
  fun x v F H a kvs y hv e h hl => by
    obtain ⟨b, h1, h2⟩ := hv
    subst h1
    have := DPut.t (k := x.map Sum.inl) (v := y) h (by rw [kV_map]; exact e _ _ h2) (by rw [List.length_map]; exact Nat.lt_of_le_of_lt hl (by decide))
    rwa [putK_inj (f := fun x : List Int => x.map (Sum.inl (β := Str))) map_inl_inj x y kvs] at this,
  fun H a kvs h => .inr ⟨_, .inl h⟩⟩

def ODict {κ α : Type} (mkD : List (κ × V) → HO) (R : α → Pd) (d : List (κ × α)) : Od := ⟨fun o F => ∃ kvs, o = mkD kvs ∧ AllD R d kvs F, fun _ _ _ e ⟨kvs, h1, h2⟩ => ⟨kvs, h1, h2.mono e⟩⟩
def RDict {κ α : Type} (mkD : List (κ × V) → HO) (R : α → Pd) (d : List (κ × α)) : Pd := ⟨fun v F => ∃ a kvs, v = .ref a ∧ F a = some (mkD kvs) ∧ AllD R d kvs F, fun _ _ _ e ⟨a, kvs, h1, h2, h3⟩ => ⟨a, kvs, h1, e _ _ h2, h3.mono e⟩⟩
theorem frzD {κ α : Type} {mkD : List (κ × V) → HO} {R : α → Pd} : ∀ (x : List (κ × α)) (p : Addr) (o : HO) (F' : Hp), (ODict mkD R x).p o F' → F' p = some o → (RDict mkD R x).p (.ref p) F' := fun x p o F' ⟨kvs, h1, h2⟩ h => ⟨p, kvs, rfl, by rw [h, h1], h2⟩
theorem frzL {α : Type} {R : α → Pd} : ∀ (x : List α) (p : Addr) (o : HO) (F' : Hp), (OList R x).p o F' → F' p = some o → (RLst R x).p (.ref p) F' := fun x p o F' ⟨vs, h1, h2⟩ h => ⟨p, vs, rfl, by rw [h, h1], h2⟩
section
variable {X : Cx} {S S' : Type} {B : Bs} {Γ : S → List Sl} {K : PySem.W.Frag} {κ α β γ ι : Type} [DecidableEq κ] {Rk : κ → Pd} {mkD : List (κ × V) → HO} {R : α → Pd} {e i f a b c : Expr} {pos p : Pos} {P : Xt}
variable {mi : S → (κ → S → Prop) → Prop} {md : S → (List (κ × α) → S → Prop) → Prop} {mx : S → (α → S → Prop) → Prop}
theorem tw_dnewK (h0 : mkD [] = .dK []) : PE X (.Dict [] [] pos) (tW B Γ (ODict mkD R) (fun s K => K [] s)) :=
  pe_imp pe_dnewK fun σ H Q ⟨s, F, K', A, hm, k⟩ => fun q nq => by
    have fr := A.fresh nq
    exact k _ s q _ F _ hm (A.layH nq) (Same.refl F) upd_same fr.1 fr.2 (A.notOwn nq) ⟨[], h0.symm, trivial⟩
theorem tw_dnewT (h0 : mkD [] = .dT []) : PE X (.Dict [] [] pos) (tW B Γ (ODict mkD R) (fun s K => K [] s)) :=
  pe_imp pe_dnewT fun σ H Q ⟨s, F, K', A, hm, k⟩ => fun q nq => by
    have fr := A.fresh nq
    exact k _ s q _ F _ hm (A.layH nq) (Same.refl F) upd_same fr.1 fr.2 (A.notOwn nq) ⟨[], h0.symm, trivial⟩
/-! d[k], d.get(k), d.get(k, x), k in d: of a known dict -/
theorem te_dix (ho : PE X e (tE B Γ (RDict mkD R) md)) (hi : PE X i (tE B Γ Rk mi)) (kt : KeyT Rk mkD) (hu : X.A.units + 1 < cLine) (hs : NoSl i := by exact fun _ _ => rfl) :
    PE X (.Subscript e i pos) (tE B Γ R (fun s K => md s fun d s1 => mi s1 fun k s2 => ∃ y, dget d k = some y ∧ K y s2)) :=
  pe_imp (pe_dget hu ho hi hs) fun σ H Q ⟨s, F, K', A, hm, k⟩ => ⟨s, F, _, A, hm, fun d s1 v F1 H1 q1 A1 e1 r1 => ⟨s1, F1, _, A1, q1, fun x s2 w F2 H2 ⟨y, hy, q2⟩ A2 e2 r2 => by
    obtain ⟨a, kvs, g1, g2, g3⟩ := (RDict mkD R d).mono _ _ _ e2 r1
    rcases g3.get x with ⟨z1, z2⟩ | ⟨y', u, z1, z2, z3⟩
    · rw [hy] at z1; cases z1
    · rw [hy] at z1; cases z1
      have := kt.get x w F2 H2 a kvs r2 A2.sub (A2.sub _ _ g2)
      rw [z2] at this
      exact ⟨a, u, g1, this, k _ s2 u F2 H2 q2 A2 (e1.trans e2) z3⟩⟩⟩
theorem te_dget2 {apos cpos : Pos} (ho : PE X e (tE B Γ (RDict mkD R) md)) (hi : PE X i (tE B Γ Rk mi)) (hx : PE X f (tE B Γ R mx)) (kt : KeyT Rk mkD) (hu : X.A.units + 1 < cLine) (m2 : M2 X e "get" apos i f cpos := by exact ⟨rfl, rfl, rfl, rfl⟩) :
    PE X (.Call (.Attribute e "get" apos) [i, f] [] cpos) (tE B Γ R (fun s K => md s fun d s1 => mi s1 fun k s2 => mx s2 fun x s3 => K ((dget d k).getD x) s3)) :=
  pe_imp (pe_dget2 hu ho hi hx m2) fun σ H Q ⟨s, F, K', A, hm, k⟩ => ⟨s, F, _, A, hm, fun d s1 v F1 H1 q1 A1 e1 r1 => by
    obtain ⟨a, kvs, g1, g2, g3⟩ := r1
    refine ⟨a, g1, kt.isd _ _ _ (A1.sub _ _ g2), s1, F1, _, A1, q1, fun x s2 w F2 H2 q2 A2 e2 r2 => ⟨s2, F2, _, A2, q2, fun y s3 u F3 H3 q3 A3 e3 r3 => ?_⟩⟩
    have g2' := e3 _ _ (e2 _ _ g2)
    have gt := kt.get x w F3 H3 a kvs ((Rk x).mono _ _ _ e3 r2) A3.sub (A3.sub _ _ g2')
    refine ⟨_, gt, ?_⟩
    rcases (g3.mono (e2.trans e3)).get x with ⟨z1, z2⟩ | ⟨y', u', z1, z2, z3⟩
    · rw [z2]; rw [z1] at q3
      exact k _ s3 u F3 H3 q3 A3 ((e1.trans e2).trans e3) r3
    · rw [z2]; rw [z1] at q3
      exact k _ s3 u' F3 H3 q3 A3 ((e1.trans e2).trans e3) z3⟩
theorem te_dget1 {apos cpos : Pos} (ho : PE X e (tE B Γ (RDict mkD R) md)) (hi : PE X i (tE B Γ Rk mi)) (kt : KeyT Rk mkD) (nn : Nn R) (hu : X.A.units + 1 < cLine) (m1 : M1 X e "get" apos i cpos := by exact ⟨rfl, rfl, rfl, rfl⟩) :
    PE X (.Call (.Attribute e "get" apos) [i] [] cpos) (tE B Γ (ROpt R) (fun s K => md s fun d s1 => mi s1 fun k s2 => K (dget d k) s2)) :=
  pe_imp (pe_dget1 hu ho hi m1) fun σ H Q ⟨s, F, K', A, hm, k⟩ => ⟨s, F, _, A, hm, fun d s1 v F1 H1 q1 A1 e1 r1 => by
    obtain ⟨a, kvs, g1, g2, g3⟩ := r1
    refine ⟨a, g1, kt.isd _ _ _ (A1.sub _ _ g2), s1, F1, _, A1, q1, fun x s2 w F2 H2 q2 A2 e2 r2 => ?_⟩
    have g2' := e2 _ _ g2
    have gt := kt.get x w F2 H2 a kvs r2 A2.sub (A2.sub _ _ g2')
    refine ⟨_, gt, ?_⟩
    rcases (g3.mono e2).get x with ⟨z1, z2⟩ | ⟨y', u', z1, z2, z3⟩
    · rw [z2]; rw [z1] at q2
      exact k _ s2 _ F2 H2 q2 A2 (e1.trans e2) rfl
    · rw [z2]; rw [z1] at q2
      exact k _ s2 u' F2 H2 q2 A2 (e1.trans e2) ⟨nn _ _ _ z3, z3⟩⟩
theorem pe_dinE (ho : PE X e (tE B Γ (RDict mkD R) md)) (hi : PE X i (tE B Γ Rk mi)) (kt : KeyT Rk mkD) (hu : X.A.units + 1 < cLine) : PC X .In i e (tE B Γ RBool (fun s K => mi s fun k s1 => md s1 fun d s2 => K (dget d k).isSome s2)) := by
  refine ⟨fun pins s σ H Q I h => (pc_din hu hi ho).run pins s σ H Q I ?_⟩
  obtain ⟨s, F, K', A, hm, k⟩ := h
  refine ⟨s, F, _, A, hm, fun x s1 v F1 H1 q1 A1 e1 r1 => ⟨s1, F1, _, A1, q1, fun d s2 w F2 H2 q2 A2 e2 r2 => ?_⟩⟩
  obtain ⟨a, kvs, g1, g2, g3⟩ := r2
  have gt := kt.get x v F2 H2 a kvs ((Rk x).mono _ _ _ e2 r1) A2.sub (A2.sub _ _ g2)
  refine ⟨a, _, g1, gt, ?_⟩
  have : (valV kvs x).isSome = (dget d x).isSome := by
    rcases g3.get x with ⟨z1, z2⟩ | ⟨y', u', z1, z2, z3⟩ <;> rw [z1, z2] <;> rfl
  rw [this]
  exact k _ s2 _ F2 H2 q2 A2 (e1.trans e2) rfl
theorem pe_dninE (ho : PE X e (tE B Γ (RDict mkD R) md)) (hi : PE X i (tE B Γ Rk mi)) (kt : KeyT Rk mkD) (hu : X.A.units + 1 < cLine) : PC X .NotIn i e (tE B Γ RBool (fun s K => mi s fun k s1 => md s1 fun d s2 => K (!(dget d k).isSome) s2)) := by
  refine ⟨fun pins s σ H Q I h => (pc_dnotin hu hi ho).run pins s σ H Q I ?_⟩
  obtain ⟨s, F, K', A, hm, k⟩ := h
  refine ⟨s, F, _, A, hm, fun x s1 v F1 H1 q1 A1 e1 r1 => ⟨s1, F1, _, A1, q1, fun d s2 w F2 H2 q2 A2 e2 r2 => ?_⟩⟩
  obtain ⟨a, kvs, g1, g2, g3⟩ := r2
  have gt := kt.get x v F2 H2 a kvs ((Rk x).mono _ _ _ e2 r1) A2.sub (A2.sub _ _ g2)
  refine ⟨a, _, g1, gt, ?_⟩
  have : (valV kvs x).isSome = (dget d x).isSome := by
    rcases g3.get x with ⟨z1, z2⟩ | ⟨y', u', z1, z2, z3⟩ <;> rw [z1, z2] <;> rfl
  rw [this]
  exact k _ s2 _ F2 H2 q2 A2 (e1.trans e2) rfl
/-- a comparison rule as a value, as a test -/
theorem te_pc {op : CmpOp} {m : S → (Bool → S → Prop) → Prop} (h : PC X op a b (tE B Γ RBool m)) (h1 : behindInMarks op b = false := by first | exact nobehind _ (by decide) (by decide) | rfl) : PE X (.Compare a [op] [b] pos) (tE B Γ RBool m) := pe_cmp h h1
theorem tt_pc {op : CmpOp} {m : S → (Bool → S → Prop) → Prop} (h : PC X op a b (tE B Γ RBool m)) (h1 : behindInMarks op b = false := by first | exact nobehind _ (by decide) (by decide) | rfl) : PT X (.Compare a [op] [b] pos) (tT B Γ m) :=
  pt_imp (pt_cmp h h1) fun σ H Q ⟨s, F, K', A, hm, k⟩ => ⟨s, F, _, A, hm, fun x s1 v F1 H1 q1 A1 e1 r1 => ⟨x, r1, k x s1 F1 H1 q1 A1 e1⟩⟩
/-! the same of an owned dict -/
variable {xn : Str} {pn : Pos}
theorem te_dixO (n : Nat) (get : S → List (κ × α)) (hi : PE X i (tE B Γ Rk mi)) (kt : KeyT Rk mkD) (hu : X.A.units + 1 < cLine) (hG : ∀ s, (Γ s)[n]? = some (.ow (ODict mkD R (get s))) := by intro _; rfl) (hN : X.N[n]? = some xn := by rfl) (hv : Vis X.env.scope xn := by first | exact Or.inl rfl | exact Or.inr (Or.inl rfl) | exact Or.inr (Or.inr rfl)) (hd : (xn == ("__debug__" : Str)) = false := by decide) (hcd : (xn == ("__classdict__" : Str)) = false := by decide) (hs : NoSl i := by exact fun _ _ => rfl) :
    PE X (.Subscript (.Name xn pn) i pos) (tE B Γ R (fun s K => mi s fun k s1 => ∃ y, dget (get s1) k = some y ∧ K y s1)) :=
  pe_imp (pe_dget hu (pe_var hN hv hd hcd) hi hs) fun σ H Q ⟨s, F, K', A, hm, k⟩ => by
    obtain ⟨q, o, h1, h2, h3, ⟨kvs0, h4, h5⟩, h6⟩ := A.ow (hG s)
    refine ⟨_, h1, s, F, _, A, hm, fun x s1 w F1 H1 ⟨y, hy, k1⟩ A1 e1 r1 => ?_⟩
    obtain ⟨q', o', g1, g2, g3, ⟨kvs, g4, g5⟩, g6⟩ := A1.ow (hG s1)
    rw [h1] at g1
    cases g1
    subst g4
    have gt := kt.get x w F1 H1 q kvs r1 A1.sub g3
    rcases g5.get x with ⟨z1, z2⟩ | ⟨y', u, z1, z2, z3⟩
    · rw [hy] at z1; cases z1
    · rw [hy] at z1; cases z1
      rw [z2] at gt
      exact ⟨q, u, rfl, gt, k _ s1 u F1 H1 k1 A1 e1 z3⟩
theorem te_dget2O (n : Nat) (get : S → List (κ × α)) {apos cpos : Pos} (hi : PE X i (tE B Γ Rk mi)) (hx : PE X f (tE B Γ R mx)) (kt : KeyT Rk mkD) (hu : X.A.units + 1 < cLine) (hG : ∀ s, (Γ s)[n]? = some (.ow (ODict mkD R (get s))) := by intro _; rfl) (hN : X.N[n]? = some xn := by rfl) (hv : Vis X.env.scope xn := by first | exact Or.inl rfl | exact Or.inr (Or.inl rfl) | exact Or.inr (Or.inr rfl)) (hd : (xn == ("__debug__" : Str)) = false := by decide) (hcd : (xn == ("__classdict__" : Str)) = false := by decide)
    (m2 : M2 X (.Name xn pn) "get" apos i f cpos := by exact ⟨rfl, rfl, rfl, rfl⟩) :
    PE X (.Call (.Attribute (.Name xn pn) "get" apos) [i, f] [] cpos) (tE B Γ R (fun s K => mi s fun k s1 => mx s1 fun x s2 => K ((dget (get s2) k).getD x) s2)) :=
  pe_imp (pe_dget2 hu (pe_var hN hv hd hcd) hi hx m2) fun σ H Q ⟨s, F, K', A, hm, k⟩ => by
    obtain ⟨q, o, h1, h2, h3, ⟨kvs0, h4, h5⟩, h6⟩ := A.ow (hG s)
    subst h4
    refine ⟨_, h1, q, rfl, kt.isd _ _ _ h3, s, F, _, A, hm, fun x s1 w F1 H1 k1 A1 e1 r1 => ⟨s1, F1, _, A1, k1, fun y s2 u F2 H2 k2 A2 e2 r2 => ?_⟩⟩
    obtain ⟨q', o', g1, g2, g3, ⟨kvs, g4, g5⟩, g6⟩ := A2.ow (hG s2)
    rw [h1] at g1
    cases g1
    subst g4
    have gt := kt.get x w F2 H2 q kvs ((Rk x).mono _ _ _ e2 r1) A2.sub g3
    refine ⟨_, gt, ?_⟩
    rcases g5.get x with ⟨z1, z2⟩ | ⟨y', u', z1, z2, z3⟩
    · rw [z2]; rw [z1] at k2
      exact k _ s2 u F2 H2 k2 A2 (e1.trans e2) r2
    · rw [z2]; rw [z1] at k2
      exact k _ s2 u' F2 H2 k2 A2 (e1.trans e2) z3
theorem pc_dinO (n : Nat) (get : S → List (κ × α)) (hi : PE X i (tE B Γ Rk mi)) (kt : KeyT Rk mkD) (hu : X.A.units + 1 < cLine) (hG : ∀ s, (Γ s)[n]? = some (.ow (ODict mkD R (get s))) := by intro _; rfl) (hN : X.N[n]? = some xn := by rfl) (hv : Vis X.env.scope xn := by first | exact Or.inl rfl | exact Or.inr (Or.inl rfl) | exact Or.inr (Or.inr rfl)) (hd : (xn == ("__debug__" : Str)) = false := by decide) (hcd : (xn == ("__classdict__" : Str)) = false := by decide) :
    PC X .In i (.Name xn pn) (tE B Γ RBool (fun s K => mi s fun k s1 => K (dget (get s1) k).isSome s1)) := by
  refine ⟨fun pins s σ H Q I h => (pc_din hu hi (pe_var hN hv hd hcd)).run pins s σ H Q I ?_⟩
  obtain ⟨s, F, K', A, hm, k⟩ := h
  refine ⟨s, F, _, A, hm, fun x s1 v F1 H1 k1 A1 e1 r1 => ?_⟩
  obtain ⟨q', o', g1, g2, g3, ⟨kvs, g4, g5⟩, g6⟩ := A1.ow (hG s1)
  subst g4
  have gt := kt.get x v F1 H1 q' kvs r1 A1.sub g3
  refine ⟨_, g1, q', _, rfl, gt, ?_⟩
  have : (valV kvs x).isSome = (dget (get s1) x).isSome := by
    rcases g5.get x with ⟨z1, z2⟩ | ⟨y', u', z1, z2, z3⟩ <;> rw [z1, z2] <;> rfl
  rw [this]
  exact k _ s1 _ F1 H1 k1 A1 e1 rfl
theorem pc_dninO (n : Nat) (get : S → List (κ × α)) (hi : PE X i (tE B Γ Rk mi)) (kt : KeyT Rk mkD) (hu : X.A.units + 1 < cLine) (hG : ∀ s, (Γ s)[n]? = some (.ow (ODict mkD R (get s))) := by intro _; rfl) (hN : X.N[n]? = some xn := by rfl) (hv : Vis X.env.scope xn := by first | exact Or.inl rfl | exact Or.inr (Or.inl rfl) | exact Or.inr (Or.inr rfl)) (hd : (xn == ("__debug__" : Str)) = false := by decide) (hcd : (xn == ("__classdict__" : Str)) = false := by decide) :
    PC X .NotIn i (.Name xn pn) (tE B Γ RBool (fun s K => mi s fun k s1 => K (!(dget (get s1) k).isSome) s1)) := by
  refine ⟨fun pins s σ H Q I h => (pc_dnotin hu hi (pe_var hN hv hd hcd)).run pins s σ H Q I ?_⟩
  obtain ⟨s, F, K', A, hm, k⟩ := h
  refine ⟨s, F, _, A, hm, fun x s1 v F1 H1 k1 A1 e1 r1 => ?_⟩
  obtain ⟨q', o', g1, g2, g3, ⟨kvs, g4, g5⟩, g6⟩ := A1.ow (hG s1)
  subst g4
  have gt := kt.get x v F1 H1 q' kvs r1 A1.sub g3
  refine ⟨_, g1, q', _, rfl, gt, ?_⟩
  have : (valV kvs x).isSome = (dget (get s1) x).isSome := by
    rcases g5.get x with ⟨z1, z2⟩ | ⟨y', u', z1, z2, z3⟩ <;> rw [z1, z2] <;> rfl
  rw [this]
  exact k _ s1 _ F1 H1 k1 A1 e1 rfl
/-- d[k] = v -/
theorem ts_dput (n : Nat) (get : S → List (κ × α)) (put : S → List (κ × α) → S) {value : Expr} {pos' : Pos} {rest : List Stmt} {mn : S → Prop} (hx : PE X value (tE B Γ R mx)) (hi : PE X i (tE B Γ Rk mi)) (kt : KeyT Rk mkD) (hu : X.A.units + 1 < cLine) (hr : PSs X rest (tS B Γ P mn))
    (hG : ∀ s, (Γ s)[n]? = some (.ow (ODict mkD R (get s))) := by intro _; rfl) (hP : ∀ s t, Γ (put s t) = (Γ s).set n (.ow (ODict mkD R t)) := by intro _ _; rfl) (hN : X.N[n]? = some xn := by rfl) (hv : Vis X.env.scope xn := by first | exact Or.inl rfl | exact Or.inr (Or.inl rfl) | exact Or.inr (Or.inr rfl)) (hd : (xn == ("__debug__" : Str)) = false := by decide) (hcd : (xn == ("__classdict__" : Str)) = false := by decide)
    (hs : swapsWith value (some (.Subscript (.Name xn pn) i pos')) pos.line X.env = pure false := by rfl) :
    PSs X (.Assign [.Subscript (.Name xn pn) i pos'] value pos :: rest) (tS B Γ P (fun s => mx s fun x s1 => mi s1 fun k s2 => (get s2).length ≤ 1000000 ∧ mn (put s2 (dput (get s2) k x)))) :=
  pss_imp (pss_cons (ps_dput hu (pe_var hN hv hd hcd) hi hx hs) hr) fun D σ H ⟨s, F, A, hm, L⟩ => ⟨s, F, _, A, hm, fun x s1 v F1 H1 k1 A1 e1 r1 => by
    obtain ⟨q, o, h1, h2, h3, h4, h6⟩ := A1.ow (hG s1)
    refine ⟨_, h1, s1, F1, _, A1, k1, fun y s2 w F2 H2 ⟨hl, k2⟩ A2 e2 r2 => ?_⟩
    obtain ⟨q', o', g1, g2, g3, ⟨kvs, g4, g5⟩, g6⟩ := A2.ow (hG s2)
    rw [h1] at g1
    cases g1
    subst g4
    refine ⟨q, _, rfl, kt.put y w F2 H2 q kvs v r2 A2.sub g3 (by rw [g5.len]; exact hl), put s2 (dput (get s2) y x), F2, ?_, k2, L⟩
    rw [hP]
    exact A2.write (hG s2) h1 ⟨_, rfl, g5.put y ((R x).mono _ _ _ e2 r1)⟩⟩
end
/-! displays of dicts -/
def AllPs {κ α : Type} (Rk : κ → Pd) (R : α → Pd) : List (V × V) → List (κ × α) → Hp → Prop
  | [], [], _ => True
  | (u, v) :: ps, (k, x) :: d, F => (Rk k).p u F ∧ (R x).p v F ∧ AllPs Rk R ps d F
  | _, _, _ => False
def tPl {S κ α : Type} (B : Bs) (Γ : S → List Sl) (Rk : κ → Pd) (R : α → Pd) (m : S → (List (κ × α) → S → Prop) → Prop) (σ : L2.St) (H : Hp) (Q : List (V × V) → Hp → Prop) : Prop :=
  ∃ s F K, At B (Γ s) σ F H ∧ m s K ∧ ∀ d s' ps F' H', K d s' → At B (Γ s') σ F' H' → Same F F' → AllPs Rk R ps d F' → Q ps H'
structure TPs {S κ α : Type} (X : Cx) (pos : Pos) (keys : List (Option Expr)) (values : List Expr) (Γ : S → List Sl) (Rk : κ → Pd) (R : α → Pd) (m : S → (List (κ × α) → S → Prop) → Prop) : Prop where
  ex : ∃ trs, PPs X pos keys values trs ∧ ∀ B σ H Q, tPl B Γ Rk R m σ H Q → tPairs trs σ H Q
section
variable {X : Cx} {S : Type} {B : Bs} {Γ : S → List Sl} {κ α : Type} {Rk : κ → Pd} {R : α → Pd} {k v : Expr} {keys : List (Option Expr)} {values : List Expr} {pos : Pos}
variable {mk : S → (κ → S → Prop) → Prop} {mx : S → (α → S → Prop) → Prop} {mr : S → (List (κ × α) → S → Prop) → Prop}
theorem tps_nil : TPs X pos [] [] Γ Rk R (fun s K => K [] s) := ⟨[], pps_nil, fun B σ H Q ⟨s, F, K', A, hm, kk⟩ => kk [] s [] F H hm A (Same.refl F) trivial⟩
theorem tps_cons (hk : ∀ B, PE X k (tE B Γ Rk mk)) (hv : ∀ B, PE X v (tE B Γ R mx)) (hr : TPs X pos keys values Γ Rk R mr) : TPs X pos (some k :: keys) (v :: values) Γ Rk R (fun s K => mk s fun x s1 => mx s1 fun y s2 => mr s2 fun d s3 => K ((x, y) :: d) s3) := by
  obtain ⟨trs, h1, h2⟩ := hr.ex
  refine ⟨_, pps_cons (pe_ex hk) (pe_ex hv) h1, fun B σ H Q ⟨s, F, K', A, hm, kk⟩ => ?_⟩
  exact ⟨B, s, F, _, A, hm, fun x s1 u F1 H1 q1 A1 e1 r1 => ⟨B, s1, F1, _, A1, q1, fun y s2 w F2 H2 q2 A2 e2 r2 => h2 B σ H2 _ ⟨s2, F2, _, A2, q2, fun d s3 ps F3 H3 q3 A3 e3 r3 =>
    kk _ s3 _ F3 H3 q3 A3 ((e1.trans e2).trans e3) ⟨(Rk x).mono _ _ _ (e2.trans e3) r1, (R y).mono _ _ _ e3 r2, r3⟩⟩⟩⟩
theorem allPs_kvs {R : α → Pd} {F : Hp} : ∀ {ps : List (V × V)} {d : List (Int × α)}, AllPs RInt R ps d F → ∃ kvs : List (Int × V), ps = kvs.map (fun kv => (V.int kv.1, kv.2)) ∧ AllD R d kvs F
  | [], [], _ => ⟨[], rfl, trivial⟩
  | (u, v) :: ps, (k, x) :: d, ⟨h1, h2, h3⟩ => by
    obtain ⟨kvs, e1, e2⟩ := allPs_kvs h3
    have h1 : u = .int k := h1
    subst h1
    exact ⟨(k, v) :: kvs, by rw [e1]; rfl, rfl, h2, e2⟩
  | [], _ :: _, h => h.elim
  | _ :: _, [], h => h.elim
theorem mergeI {R : α → Pd} {F : Hp} : ∀ {d e : List (Int × α)} {kvs kvs0 : List (Int × V)}, AllD R d kvs F → AllD R e kvs0 F → ∃ kvs1, mergeK (kvs0.map fun p => (Sum.inl p.1, p.2)) (kvs.map fun p => (Sum.inl p.1, p.2)) = kvs1.map (fun p => (Sum.inl p.1, p.2)) ∧ AllD R (dmerge e d) kvs1 F
  | [], e, [], kvs0, _, h => ⟨kvs0, rfl, h⟩
  | (k, x) :: d, e, (k', v) :: kvs, kvs0, ⟨h1, h2, h3⟩, h => by
    subst h1
    obtain ⟨kvs1, e1, e2⟩ := mergeI (e := dput e k' x) h3 (h.put k' h2)
    refine ⟨kvs1, ?_, e2⟩
    rw [← e1, ← putK_inj (f := Sum.inl) (fun _ _ z => Sum.inl.inj z)]
    rfl
  | [], _, _ :: _, _, h, _ => h.elim
  | _ :: _, _, [], _, h, _ => h.elim
theorem tw_disp {mr : S → (List (Int × α) → S → Prop) → Prop} (h : TPs X pos keys values Γ RInt R mr) (hall : keys.all (·.isSome) = true := by rfl) (hl : keys.length = values.length := by rfl) (h0 : keys ≠ [] := by exact fun z => by cases z) (h15 : keys.length ≤ 15 := by decide) :
    PE X (.Dict keys values pos) (tW B Γ (ODict mkI R) (fun s K => mr s fun d s1 => d.length ≤ 15 ∧ K (dmerge [] d) s1)) := by
  obtain ⟨trs, h1, h2⟩ := h.ex
  refine pe_imp (pe_disp h1 hall hl h0 h15) fun σ H Q ⟨s, F, K', A, hm, kk⟩ p np => ?_
  have fr := A.fresh np
  have A1 := A.layH (o := .dK []) np
  refine h2 (B.hold p (.dK [])) σ _ _ ⟨s, F, _, A1.hold fr.1 upd_same fr.2 (A.notOwn np), hm, fun d s1 ps F1 H1 ⟨hz, q1⟩ A2 e1 r1 => ?_⟩
  obtain ⟨A3, f3, h3, n3⟩ := A1.unhold fr.1 fr.2 A2 e1
  obtain ⟨kvs, g1, g2⟩ := allPs_kvs r1
  obtain ⟨kvs1, g3, g4⟩ := mergeI (e := []) (kvs0 := []) g2 trivial
  refine ⟨h3, kvs.map fun p => (Sum.inl p.1, p.2), by rw [g1, List.map_map]; rfl, by rw [List.length_map, g2.len]; exact hz, ?_⟩
  have g3 : mergeK [] (kvs.map fun p => (Sum.inl p.1, p.2)) = kvs1.map (fun p => (Sum.inl p.1, p.2)) := g3
  rw [g3]
  exact kk _ s1 p _ F1 _ q1 (A3.poke h3 f3 fr.2 n3) e1 upd_same f3 fr.2 n3 ⟨kvs1, rfl, g4⟩
end
section
variable {X : Cx} {S : Type} {B : Bs} {Γ : S → List Sl} {K : PySem.W.Frag} {α : Type} {R : α → Pd} {a e : Expr} {pos p : Pos} {xn : Str} {pn : Pos}
theorem call_dict_ps {F H : Hp} (eF : Same F H) : ∀ {d : List (Int × α)} {vs : List V}, AllR (RPair K RInt R) d vs F → ∃ (ps : List Addr) (kvs : List (Int × V)), vs = ps.map V.ref ∧ Paired (fun p (kv : Key × V) => SqT K H p [kV kv.1, kv.2]) ps (kvs.map fun p => (Sum.inl p.1, p.2)) ∧ AllD R d kvs F
  | [], [], _ => ⟨[], [], rfl, .nil, trivial⟩
  | (k, x) :: d, v :: vs, ⟨⟨t, v1, v2, h1, h2, h3, h4⟩, h⟩ => by
    obtain ⟨ps, kvs, e1, e2, e3⟩ := call_dict_ps eF h
    have h3 : v1 = .int k := h3
    subst h3
    refine ⟨t :: ps, (k, v2) :: kvs, by rw [h1, e1]; rfl, .cons (seqT_mono eF h2) e2, rfl, h4, e3⟩
  | [], _ :: _, h => h.elim
  | _ :: _, [], h => h.elim
theorem bp_dict (hm : X.mg "dict" = none) (hg : Gl X "dict" := by rfl) : BP X "dict" (.type "dict") := ⟨hg, hm, by decide +kernel, by decide, by decide⟩
/-- dict(pairs) -/
theorem tw_dictP {ma : S → (List (Int × α) → S → Prop) → Prop} (Pb : BP X "dict" (.type "dict")) (ha : PE X a (tE B Γ (RList K (RPair K RInt R)) ma)) (hK : X.K = K := by rfl) (hc : X.calm = true := by rfl) (hs : starEach [a] X.env = (false, eval a X.env) :: starEach [] X.env := by rfl) (hpl : (backTo pos (starEach [] X.env)).any (·.1) = false := by rfl) :
    PE X (.Call (.Name "dict" p) [a] [] pos) (tW B Γ (ODict mkI R) (fun s K => ma s fun d s1 => K (dmerge [] d) s1)) := by
  subst hK
  refine pe_imp (pe_bt Pb (call_dictP hc) (pa_cons ha pa_nil hs) hs hpl) fun σ H Q ⟨s, F, K', A, hm, k⟩ => ⟨s, F, _, A, hm, fun d s1 v F1 H1 q1 A1 e1 ⟨w, vs, h1, h2, h3⟩ => ?_⟩
  subst h1
  obtain ⟨ps, kvs, e3, e4, e5⟩ := call_dict_ps A1.sub h3
  obtain ⟨kvs1, g3, g4⟩ := mergeI (e := []) (kvs0 := []) e5 trivial
  refine ⟨w, ps, _, rfl, by rw [← e3]; exact seqL_mono A1.sub h2, e4, fun q nq => ?_⟩
  have g3 : mergeK [] (kvs.map fun p => (Sum.inl p.1, p.2)) = kvs1.map (fun p => (Sum.inl p.1, p.2)) := g3
  rw [g3]
  have fr := A1.fresh nq
  exact k _ s1 q _ F1 _ q1 (A1.layH nq) e1 upd_same fr.1 fr.2 (A1.notOwn nq) ⟨kvs1, rfl, g4⟩
/-! ints sorted -/
def insI (c : Int) : List Int → List Int
  | [] => [c]
  | x :: xs => if c ≤ x then c :: x :: xs else x :: insI c xs
def sortI (xs : List Int) : List Int := xs.foldr insI []
theorem insI_perm (c : Int) : ∀ l, (insI c l).Perm (c :: l)
  | [] => .refl _
  | x :: xs => by
    unfold insI
    split
    · exact .refl _
    · exact ((insI_perm c xs).cons x).trans (.swap c x xs)
theorem sortI_perm : ∀ l, (sortI l).Perm l
  | [] => .refl _
  | x :: xs => (insI_perm x _).trans ((sortI_perm xs).cons x)
theorem insI_up (c : Int) : ∀ {l : List Int}, l.Pairwise (· ≤ ·) → (insI c l).Pairwise (· ≤ ·)
  | [], _ => by simp [insI]
  | x :: xs, h => by
    obtain ⟨h1, h2⟩ := List.pairwise_cons.mp h
    unfold insI
    split
    · rename_i hc
      refine List.pairwise_cons.mpr ⟨fun y hy => ?_, h⟩
      rcases List.mem_cons.mp hy with e | e
      · subst e; exact hc
      · exact Int.le_trans hc (h1 y e)
    · rename_i hc
      refine List.pairwise_cons.mpr ⟨fun y hy => ?_, insI_up c h2⟩
      rcases List.mem_cons.mp ((insI_perm c xs).mem_iff.mp hy) with e | e
      · subst e; omega
      · exact h1 y e
theorem sortI_up : ∀ l, (sortI l).Pairwise (· ≤ ·)
  | [] => .nil
  | x :: xs => insI_up x (sortI_up xs)
theorem rise_unique : ∀ {l l' : List Int}, l.Perm l' → l.Pairwise (· ≤ ·) → l'.Pairwise (· ≤ ·) → l = l'
  | [], l', h, _, _ => h.nil_eq
  | x :: xs, [], h, _, _ => by have := h.length_eq; simp at this
  | x :: xs, y :: ys, h, h1, h2 => by
    obtain ⟨a1, a2⟩ := List.pairwise_cons.mp h1
    obtain ⟨b1, b2⟩ := List.pairwise_cons.mp h2
    have e : x = y := by
      rcases List.mem_cons.mp (h.mem_iff.mp List.mem_cons_self) with z | z
      · exact z
      · rcases List.mem_cons.mp (h.mem_iff.mpr List.mem_cons_self) with z' | z'
        · exact z'.symm
        · have := b1 x z; have := a1 y z'; omega
    subst e
    rw [rise_unique (h.cons_inv) a2 b2]
/-- sorted(d), its keys whole numbers -/
theorem tn_sortedDO (n : Nat) (get : S → List (Int × α)) (Pb : BP X "sorted" (.builtin "sorted")) (hG : ∀ s, (Γ s)[n]? = some (.ow (ODict mkI R (get s))) := by intro _; rfl) (hN : X.N[n]? = some xn := by rfl) (hv : Vis X.env.scope xn := by first | exact Or.inl rfl | exact Or.inr (Or.inl rfl) | exact Or.inr (Or.inr rfl)) (hd : (xn == ("__debug__" : Str)) = false := by decide) (hcd : (xn == ("__classdict__" : Str)) = false := by decide)
    (hc : X.calm = true := by rfl) (hs : starEach [.Name xn pn] X.env = (false, eval (.Name xn pn) X.env) :: starEach [] X.env := by rfl) (hpl : (backTo pos (starEach [] X.env)).any (·.1) = false := by rfl) :
    PE X (.Call (.Name "sorted" p) [.Name xn pn] [] pos) (tN B Γ RInt (fun s K => (get s).length < 64 ∧ K (sortI ((get s).map (·.1))) s)) :=
  pe_imp (pe_bf Pb (call_sortedDI hc) (pa_cons (pe_var hN hv hd hcd) pa_nil hs) hs hpl) fun σ H Q ⟨s, F, K', A, ⟨hz, hm⟩, k⟩ => by
    obtain ⟨q, o, h1, h2, h3, ⟨kvs, h4, h5⟩, h6⟩ := A.ow (hG s)
    subst h4
    refine ⟨_, h1, q, _, (get s).map (·.1), rfl, .inl h3, ?_, by rw [List.length_map]; exact hz, fun ys l hp hup nl => ?_⟩
    · rw [List.map_map, ← h5.keys, List.map_map]
      rfl
    · have e : ys = sortI ((get s).map (·.1)) := rise_unique (hp.trans (sortI_perm _).symm) hup (sortI_up _)
      subst e
      have fr := A.fresh nl
      exact k _ s l _ F _ hm (A.layH nl) (Same.refl F) upd_same fr.1 fr.2 (A.notOwn nl) (AllR.ints.mpr rfl)
/-- sorted(xs) of whole numbers -/
theorem tn_sortedI {ma : S → (List Int → S → Prop) → Prop} (Pb : BP X "sorted" (.builtin "sorted")) (ha : PE X a (tE B Γ (RList K RInt) ma)) (hK : X.K = K := by rfl) (hs : starEach [a] X.env = (false, eval a X.env) :: starEach [] X.env := by rfl) (hpl : (backTo pos (starEach [] X.env)).any (·.1) = false := by rfl) :
    PE X (.Call (.Name "sorted" p) [a] [] pos) (tN B Γ RInt (fun s K => ma s fun y s1 => K (sortI y) s1)) := by
  subst hK
  refine pe_imp (pe_bf Pb cr_sortedI (pa_cons ha pa_nil hs) hs hpl) fun σ H Q ⟨s, F, K', A, hm, k⟩ => ⟨s, F, _, A, hm, fun y s1 v F1 H1 q1 A1 e1 ⟨w, vs, h1, h2, h3⟩ => ?_⟩
  subst h1
  have z := AllR.ints.mp h3
  subst z
  refine ⟨w, y, rfl, seqL_mono A1.sub h2, fun ns q hp hup nq => ?_⟩
  have e : ns = sortI y := rise_unique (hp.trans (sortI_perm _).symm) hup (sortI_up _)
  subst e
  have fr := A1.fresh nq
  exact k _ s1 q _ F1 _ q1 (A1.layH nq) e1 upd_same fr.1 fr.2 (A1.notOwn nq) (AllR.ints.mpr rfl)
end
end TL
namespace TL
open PySem L2

/-! ### lists or tuples -/
def SqA (K : PySem.W.Frag) (H : Hp) (a : Addr) (vs : List V) : Prop := SqL K H a vs ∨ SqT K H a vs
theorem sqA_mono {K : PySem.W.Frag} {F F' : Hp} {a : Addr} {vs : List V} (e : Same F F') (h : SqA K F a vs) : SqA K F' a vs := h.imp (seqL_mono e) (seqT_mono e)
def RSq (K : PySem.W.Frag) {α : Type} (R : α → Pd) (xs : List α) : Pd := ⟨fun v F => ∃ a vs, v = .ref a ∧ SqA K F a vs ∧ AllR R xs vs F, fun _ _ _ e ⟨a, vs, h1, h2, h3⟩ => ⟨a, vs, h1, sqA_mono e h2, h3.mono e⟩⟩
def RPq (K : PySem.W.Frag) {α β : Type} (R : α → Pd) (R' : β → Pd) (x : α × β) : Pd :=
  ⟨fun v F => ∃ a v1 v2, v = .ref a ∧ SqA K F a [v1, v2] ∧ (R x.1).p v1 F ∧ (R' x.2).p v2 F, fun _ _ _ e ⟨a, v1, v2, h1, h2, h3, h4⟩ => ⟨a, v1, v2, h1, sqA_mono e h2, (R _).mono _ _ _ e h3, (R' _).mono _ _ _ e h4⟩⟩
/-! the library's unpacking of a tuple, for a list -/
section
open PyProof.Rows
variable {prog : Program} {w : World} {A : Around} {E : Value → Shared → Prop} {s : Shared}
theorem draw_list {it t : Addr} {items : Array Value} (hne : t ≠ it) : ∀ (n i : Nat) (s : Shared) (Q : List Value → Shared → Prop), s.heap.IsListIter it t i → s.heap.IsList t items → i + n ≤ items.size →
    (∀ h', h'.IsListIter it t (i + n) → Heap.SameBut it s.heap h' → Q ((items.toList.drop i).take n) { s with heap := h' }) → wpAny (model prog w) A (draw (.ref it) n) Q E s
  | 0, i, s, Q, hit, _, _, hQ => by
    show wpAny _ _ (pure []) Q E s
    exact wpAny_pure (by simpa using hQ s.heap hit (Heap.SameBut.refl ..))
  | n + 1, i, s, Q, hit, ht, hle, hQ => by
    have hlt : i < items.size := by omega
    show wpAny _ _ (pyNext (.ref it) >>= _) Q E s
    refine wpAny_bind (wpAny_pyNext_list_item hit ht (x := items[i]) (by simp [hlt]) fun h₁ hit₁ hs₁ => ?_)
    refine wpAny_bind (wpAny_holding (draw_list hne n (i + 1) _ _ hit₁ (ht.extBut hs₁.extBut hne) (by omega) fun h₂ hit₂ hs₂ => wpAny_pure ?_))
    have hd : items.toList.drop i = items[i] :: items.toList.drop (i + 1) := by simp [List.drop_eq_getElem_cons, hlt]
    have := hQ h₂ (by rw [show i + (n + 1) = i + 1 + n by omega]; exact hit₂) (hs₁.trans hs₂)
    rw [hd, List.take_succ_cons] at this
    exact this
theorem unpackItems_list {t : Addr} {items : Array Value} {Q : List Value → Shared → Prop} (hh : A.handled = none) (ht : s.heap.IsList t items)
    (hQ : ∀ h', Heap.ExtBut s.heap.objs.size s.heap h' → Q items.toList { s with heap := h' }) : wpAny (model prog w) A (unpackItems (.ref t) items.size none) Q E s := by
  have hlt : t ≠ s.heap.objs.size := by obtain ⟨o, ho, _⟩ := ht; exact Nat.ne_of_lt (Heap.lt_size ho)
  unfold unpackItems
  refine wpAny_bind ?_
  · unfold notIterableAtAll
    refine wpAny_bind (wpAny_specialOf ht.typeIs PySem.F.slot_list_iter.lookup ?_)
    refine wpAny_pure ?_
    simp only [Bool.false_eq_true, if_false]
    refine wpAny_bind (wpAny_holding (wpAny_pyIter_list ht ?_))
    refine wpAny_bind (wpAny_holding (draw_list hlt items.size 0 _ _ ⟨_, Heap.get?_push_size _ rfl, rfl, rfl⟩ (ht.push _) (by omega) fun h₁ hit₁ hs₁ => ?_))
    have hall : List.take items.size (List.drop 0 items.toList) = items.toList := by
      rw [List.drop_zero]; exact List.take_of_length_le (by simp)
    rw [hall]
    rw [if_neg (by simp)]
    have ht₁ : h₁.IsList t items := (ht.push _).extBut hs₁.extBut hlt
    refine wpAny_bind (wpAny_holding (wpAny_pyNext_list_end hh hit₁ ht₁ (by simp) fun h₂ he₂ => ?_))
    simp only [Option.isSome_none, Bool.false_eq_true, if_false]
    refine wpAny_pure (hQ h₂ fun b o hb e => he₂ b o hb (hs₁.extBut b o hb (Heap.get?_push_of_some _ e)))
theorem assign_Tuple_list {env : Env} {elts : List Expr} {x1} {pos : Pos} {t : Addr} {items : Array Value} {Q : Unit → Shared → Prop} (hh : A.handled = none) (ht : s.heap.IsList t items)
    (hn : (assignEach elts env).length = items.size) (hstar : (assignEach elts env).findIdx? (·.1) = none)
    (h : ∀ h', Heap.ExtBut s.heap.objs.size s.heap h' → wpAny (model prog w) A (assignInOrder ((assignEach elts env).map (·.2)) items.toList) Q E { s with heap := h' }) :
    wpAny (model prog w) A (assign (.Tuple elts x1 pos) env (.ref t)) Q E s := by
  rw [PyProof.Rows.assign_Tuple]
  refine wpAny_bind (wpAny_standAt ?_)
  unfold unpack
  rw [hn, hstar]
  exact wpAny_bind (wpAny_holding (unpackItems_list hh ht h))
/-- list.extend(tuple) -/
theorem list_extend_tupX (l : Addr) (items : Array Value) (n : Nat) (b : Addr) (items2 : Array Value) (n2 : Nat) (dd2 : Option Addr) (sl2 : Array (Option Value)) (hs0 : ¬(!items.isEmpty && Builtin.List.listTooLong (items.size + items2.size)) = true) (hs1 : items.size ≤ sizeLine) (hs2 : items.size + items2.size ≤ sizeLine + 1) :
    Meets (Builtin.«list.extend» ⟨[.ref l, .ref b], []⟩) (fun _ R s => s.heap.get? l = some { cls := .type "list", dict := none, data := .seq items n, slots := #[] } ∧ s.heap.get? b = some { cls := .type "tuple", dict := dd2, data := .seq items2 n2, slots := sl2 } ∧ R (.ok (.ret Value.none)) { s with heap := s.heap.update l (Obj.mapSeq fun x => x ++ items2), toks := s.toks }) :=
  .of_wp fun prog w A R s h => by
    obtain ⟨hp, g, d, tk, os⟩ := s; obtain ⟨hl, hb, h⟩ := h; have f1 := AutoSeq1.idx_int; have f2 := AutoSeq1.sub_tuple_tuple; have f3 := AutoSeq1.sub_list_list; have f4 := AutoSeq1.sub_tuple_list; have f5 := AutoSeq1.sub_list_tuple;
    have hz' : (items ++ items2).size ≤ sizeLine + 1 := by rw [Array.size_append]; exact hs2
    wp_walk using (PySem.wpAny_updateSeq hl rfl (hz := hs1) (_hz' := hz')), AutoSeq1.wpAny_loadPart' hl, AutoSeq1.wpAny_loadPart' hb; exact ⟨_, rfl, h⟩
end
def rExtendQ (K : PySem.W.Frag) : V → List V → Hp → VK → Prop := fun x vs H Q => ∃ l b xs zs, x = .ref l ∧ vs = [.ref b] ∧ H l = some (.lst xs) ∧ (H b = some (.lst zs) ∨ SqT K H b zs) ∧ xs.length + zs.length ≤ 2000000 ∧ Q .non (upd H l (.lst (xs ++ zs)))
section
variable {X : Cx}
theorem mt_extendQ : MtR X "list.extend" (rExtendQ X.K) := by
  intro pins s σ H x vs v us Q I rx rv h
  obtain ⟨l, b, xs, zs, rfl, rfl, hH, hB, hz, q⟩ := h
  have hz : xs.length + zs.length ≤ sizeLine := Nat.le_trans hz (by decide)
  rcases hB with hB | hB
  · exact mt_extend pins s σ H (.ref l) [.ref b] v us Q I rx rv ⟨l, b, xs, zs, rfl, rfl, hH, hB, hz, q⟩
  · cases rx
    obtain ⟨u, rfl, ru⟩ := rv.one
    cases ru
    obtain ⟨z, its, n, r, hl, e⟩ := I.lstM hH
    obtain ⟨its2, r2, ⟨⟨cls2, dd2, data2, sl2⟩, e2, hc2, n2, hd2⟩, z2⟩ := I.tuple hB
    simp only at hc2 hd2
    subst hc2 hd2
    have hl2 := r2.length
    have hsz : its.toArray.size + its2.toArray.size ≤ sizeLine := by rw [List.size_toArray, List.size_toArray]; omega
    have hlong : ¬ (!its.toArray.isEmpty && Builtin.List.listTooLong (its.toArray.size + its2.toArray.size)) = true := by
      rw [notLongL hsz, Bool.and_false]
      exact Bool.false_ne_true
    refine call_meets PySem.F.slot_list_extend ⟨_, e, rfl⟩ PySem.F.entry_list_extend (PySem.F.args_list_extend_2 _ _)
      (list_extend_tupX l its.toArray n b its2.toArray n2 dd2 sl2 hlong (by rw [List.size_toArray]; omega) (by omega)) ⟨e, e2, ?_⟩
    refine ⟨.non, _, I.lset (its' := its ++ its2) hH e (by simp) (r.append r2) ?_, rfl, q⟩
    rw [List.length_append]
    omega
/-- a, b = e: e a list or a tuple -/
def gTupQ (K : PySem.W.Frag) (n : Nat) (t : TGs) : TG := fun v σ H Q => ∃ a xs, v = .ref a ∧ SqA K H a xs ∧ xs.length = n ∧ t xs σ H Q
theorem pg_seq {es : List Expr} {k : Nat} {t : TGs} {n : Nat} {pos : Pos} (hc : X.calm = true) (h : PGs X es t)
    (hn : (assignEach es X.env).length = n := by rfl) (hst : (assignEach es X.env).findIdx? (·.1) = none := by rfl) : PG X (.Tuple es k pos) (gTupQ X.K n t) := by
  refine ⟨fun pins s σ H v u Q I r hw => ?_⟩
  obtain ⟨a, xs, e1, hq, hl, hw⟩ := hw
  rcases hq with hq | hq
  · subst e1
    cases r
    obtain ⟨its, rv, p, hz⟩ := I.list hq
    refine assign_Tuple_list (I.ok.hd hc) p.isList (by simp [hn, ← hl, rv.length]) hst fun h' hx => ?_
    have I1 : Inv X pins σ H { s with heap := h' } := I.kept (t' := s.toks) fun b o e => hx b o (Nat.ne_of_lt (Heap.lt_size e)) e
    exact h.run pins _ σ H xs _ Q I1 (by simpa using rv) hw
  · exact (pg_tup hc h hn hst).run pins s σ H v u Q I r ⟨a, xs, e1, hq, hl, hw⟩
/-- a walk over a list or a tuple -/
def iSeq (K : PySem.W.Frag) (tl : TE) : TI := fun σ H R => tl σ H fun x H1 => ∃ a xs, x = .ref a ∧ ((SqL K H1 a xs ∧ R (Itl K a) H1) ∨ (SqT K H1 a xs ∧ R (Itt K a) H1))
theorem pi_seq {tg l : Expr} {tl : TE} (hl : PE X l tl) : PI X tg l (iSeq X.K tl) := by
  refine ⟨fun pins s σ H R I h => ?_⟩
  refine thn (hl.run pins s σ H _ I h) fun v s1 ⟨x, H1, I1, r1, q1⟩ => ?_
  obtain ⟨a, xs, e, q⟩ := q1
  subst e
  cases r1
  rcases q with ⟨hq, q⟩ | ⟨hq, q⟩
  · obtain ⟨its, rv, p, hz⟩ := I1.list hq
    refine wpAny_pyIter_list p.isList ?_
    refine ⟨s1.heap.objs.size, [s1.heap.objs.size], _, _, H1, rfl, I1.kept (t' := s1.toks) fun b o e => Heap.get?_push_of_some _ e, turn_list a _, ⟨_, Heap.get?_push_size _ rfl, rfl, rfl⟩, fun b hb => ?_, q⟩
    have e : b = s1.heap.objs.size := by simpa using hb
    subst e
    exact I1.fpOk (Nat.le_refl _) (I1.hok.fresh (Nat.le_refl _))
  · obtain ⟨its, rv, p, hz⟩ := I1.tuple hq
    refine wpAny_pyIter_tuple (show s1.heap.IsTuple a its.toArray from p) ?_
    refine ⟨s1.heap.objs.size, [s1.heap.objs.size], _, _, H1, rfl, I1.kept (t' := s1.toks) fun b o e => Heap.get?_push_of_some _ e, turn_tuple a _, ⟨_, Heap.get?_push_size _ rfl, rfl, rfl⟩, fun b hb => ?_, q⟩
    have e : b = s1.heap.objs.size := by simpa using hb
    subst e
    exact I1.fpOk (Nat.le_refl _) (I1.hok.fresh (Nat.le_refl _))
theorem call_repr_bool : CallR X (.builtin "repr") (fun xs H Q => ∃ b, xs = [.bl b] ∧ Q (.str (if b then "True" else "False")) H) := by
  intro pins s σ H xs us Q I r h
  obtain ⟨b, rfl, q⟩ := h
  obtain ⟨u, rfl, ru⟩ := vals1 r
  cases (show u = Value.bool b from ru)
  exact PySem.P.repr_of_bool ⟨.str _, H, I.tok _, ⟨_, rfl⟩, q⟩
end
section
variable {X : Cx} {S S' : Type} {B : Bs} {Γ : S → List Sl} {K : PySem.W.Frag} {α β γ ι κ : Type} {R Ra : α → Pd} {Rb : β → Pd} {e a b c d tg : Expr} {es : List Expr} {pos p : Pos} {m ma : S → (α → S → Prop) → Prop} {mb : S → (β → S → Prop) → Prop} {xn : Str} {pn : Pos} {t u u' : Value}
theorem te_lstSq {m : S → (List α → S → Prop) → Prop} (h : PE X e (tE B Γ (RLst R) m)) : PE X e (tE B Γ (RSq K R) m) :=
  pe_imp h fun σ H Q ⟨s, F, K', A, hm, k⟩ => ⟨s, F, _, A, hm, fun x s1 v F1 H1 q1 A1 e1 ⟨q, vs, g1, g2, g3⟩ => k x s1 v F1 H1 q1 A1 e1 ⟨q, vs, g1, .inl (SqL.of g2), g3⟩⟩
theorem te_listSq {m : S → (List α → S → Prop) → Prop} (h : PE X e (tE B Γ (RList K R) m)) : PE X e (tE B Γ (RSq K R) m) :=
  pe_imp h fun σ H Q ⟨s, F, K', A, hm, k⟩ => ⟨s, F, _, A, hm, fun x s1 v F1 H1 q1 A1 e1 ⟨q, vs, g1, g2, g3⟩ => k x s1 v F1 H1 q1 A1 e1 ⟨q, vs, g1, .inl g2, g3⟩⟩
theorem te_tupSq {m : S → (List α → S → Prop) → Prop} (h : PE X e (tE B Γ (RTup K R) m)) : PE X e (tE B Γ (RSq K R) m) :=
  pe_imp h fun σ H Q ⟨s, F, K', A, hm, k⟩ => ⟨s, F, _, A, hm, fun x s1 v F1 H1 q1 A1 e1 ⟨q, vs, g1, g2, g3⟩ => k x s1 v F1 H1 q1 A1 e1 ⟨q, vs, g1, .inr g2, g3⟩⟩
theorem te_pairPq {m : S → (α × β → S → Prop) → Prop} (h : PE X e (tE B Γ (RPair K Ra Rb) m)) : PE X e (tE B Γ (RPq K Ra Rb) m) :=
  pe_imp h fun σ H Q ⟨s, F, K', A, hm, k⟩ => ⟨s, F, _, A, hm, fun x s1 v F1 H1 q1 A1 e1 ⟨q, v1, v2, g1, g2, g3, g4⟩ => k x s1 v F1 H1 q1 A1 e1 ⟨q, v1, v2, g1, .inr g2, g3, g4⟩⟩
/-- an item's word may be weakened in a list, a tuple -/
def Imp {α β : Type} (R : α → Pd) (R' : β → Pd) (f : α → Option β) : Prop := ∀ x y v F, f x = some y → (R x).p v F → (R' y).p v F
def mapO {α β : Type} (f : α → Option β) : List α → Option (List β)
  | [] => some []
  | x :: xs => match f x, mapO f xs with | some y, some ys => some (y :: ys) | _, _ => none
theorem AllR.impO {R : α → Pd} {R' : β → Pd} {f : α → Option β} (h : Imp R R' f) {F : Hp} : ∀ {xs : List α} {ys : List β} {vs : List V}, mapO f xs = some ys → AllR R xs vs F → AllR R' ys vs F
  | [], ys, [], e, _ => by cases e; trivial
  | x :: xs, ys, v :: vs, e, ⟨h1, h2⟩ => by
    unfold mapO at e
    split at e
    · rename_i y ys' e1 e2
      cases e
      exact ⟨h x y v F e1 h1, AllR.impO h e2 h2⟩
    · cases e
theorem imp_id {R : α → Pd} : Imp R R (fun x => some x) := fun x y v F e h => by cases e; exact h
theorem imp_pairPq : Imp (RPair K Ra Rb) (RPq K Ra Rb) (fun x => some x) := fun x y v F e ⟨q, v1, v2, g1, g2, g3, g4⟩ => by cases e; exact ⟨q, v1, v2, g1, .inr g2, g3, g4⟩
/-- two items -/
def twoOf {α : Type} : List α → Option (α × α)
  | [a, b] => some (a, b)
  | _ => none
theorem imp_lstPq {Ra : α → Pd} : Imp (RLst Ra) (RPq K Ra Ra) twoOf := fun x y v F e ⟨q, vs, g1, g2, g3⟩ => by
  match x, vs, g3 with
  | [a, b], [v1, v2], ⟨r1, r2, _⟩ => cases e; exact ⟨q, v1, v2, g1, .inl (SqL.of g2), r1, r2⟩
  | [a, b], [], h => exact h.elim
  | [a, b], [_], h => exact h.2.elim
  | [a, b], _ :: _ :: _ :: _, h => exact h.2.2.elim
theorem te_imp {R' : β → Pd} {f : α → Option β} (hi : Imp R R' f) (h : PE X e (tE B Γ R m)) : PE X e (tE B Γ R' (fun s K => m s fun x s1 => ∃ y, f x = some y ∧ K y s1)) :=
  pe_imp h fun σ H Q ⟨s, F, K', A, hm, k⟩ => ⟨s, F, _, A, hm, fun x s1 v F1 H1 ⟨y, hy, q1⟩ A1 e1 r1 => k y s1 v F1 H1 q1 A1 e1 (hi x y v F1 hy r1)⟩
theorem imp_sq {R' : β → Pd} {f : α → Option β} (h : Imp R R' f) : Imp (RSq K R) (RSq K R') (mapO f) := fun x y v F e ⟨q, vs, g1, g2, g3⟩ => ⟨q, vs, g1, g2, g3.impO h e⟩
theorem mapO_some : ∀ xs : List α, mapO (fun x => some x) xs = some xs
  | [] => rfl
  | x :: xs => by unfold mapO; rw [mapO_some xs]
theorem te_sqPairs {m : S → (List (α × β) → S → Prop) → Prop} (h : PE X e (tE B Γ (RSq K (RPair K Ra Rb)) m)) : PE X e (tE B Γ (RSq K (RPq K Ra Rb)) m) :=
  pe_imp h fun σ H Q ⟨s, F, K', A, hm, k⟩ => ⟨s, F, _, A, hm, fun x s1 v F1 H1 q1 A1 e1 r1 => k x s1 v F1 H1 q1 A1 e1 (imp_sq imp_pairPq x x v F1 (mapO_some x) r1)⟩
theorem te_pairTup {Ra : α → Pd} {m : S → (α × α → S → Prop) → Prop} (h : PE X e (tE B Γ (RPair K Ra Ra) m)) : PE X e (tE B Γ (RTup K Ra) (fun s K => m s fun x s1 => K [x.1, x.2] s1)) :=
  pe_imp h fun σ H Q ⟨s, F, K', A, hm, k⟩ => ⟨s, F, _, A, hm, fun x s1 v F1 H1 q1 A1 e1 ⟨q, v1, v2, g1, g2, g3, g4⟩ => k [x.1, x.2] s1 v F1 H1 q1 A1 e1 ⟨q, [v1, v2], g1, g2, g3, g4, trivial⟩⟩
theorem lens_sq : Lens K (RSq K R) List.length := fun x v F ⟨a, vs, h1, h2, h3⟩ => ⟨a, vs, h1, h2, h3.len⟩
theorem lens_pq : Lens K (RPq K Ra Rb) (fun _ => 2) := fun x v F ⟨a, v1, v2, h1, h2, _⟩ => ⟨a, [v1, v2], h1, h2, rfl⟩
theorem lens_pair : Lens K (RPair K Ra Rb) (fun _ => 2) := fun x v F ⟨a, v1, v2, h1, h2, _⟩ => ⟨a, [v1, v2], h1, .inr h2, rfl⟩
theorem lens_tn {As : ι → List Pd} {n : Nat} (h : ∀ y, (As y).length = n) : Lens K (RTn K As) (fun _ => n) := fun x v F ⟨a, vs, h1, h2, h3⟩ => ⟨a, vs, h1, .inr h2, by rw [h3.len, h]⟩
theorem dat_pair {d1 : α → PyData} {d2 : β → PyData} {n1 n2 : Nat} (h1 : Dat K Ra d1 n1) (h2 : Dat K Rb d2 n2) : Dat K (RPair K Ra Rb) (fun x => .tuple [d1 x.1, d2 x.2]) (max n1 n2 + 1) :=
  ⟨fun x v F ⟨a, v1, v2, g1, g2, g3, g4⟩ => by subst g1; exact .tup g2 (.cons (h1.dp _ _ _ g3) (.cons (h2.dp _ _ _ g4) .nil)), fun x => by
    show ((d1 x.1).canLay0 && ((d2 x.2).canLay0 && true)) = true
    rw [h1.lay, h2.lay]; rfl, fun x y => by
    show (PyData.eqv (d1 x.1) (d1 y.1) && (PyData.eqv (d2 x.2) (d2 y.2) && true)) = true ↔ _
    rw [Bool.and_eq_true, Bool.and_eq_true, h1.inj, h2.inj]
    exact ⟨fun ⟨a, b, _⟩ => Prod.ext a b, fun h => ⟨congrArg Prod.fst h, congrArg Prod.snd h, rfl⟩⟩, fun x => by
    show max (d1 x.1).depth (max (d2 x.2).depth 0) + 1 ≤ _
    have := h1.dep x.1
    have := h2.dep x.2
    omega⟩
theorem ti_sq {m : S → (List α → S → Prop) → Prop} (h : PE X e (tE B Γ (RSq K R) m)) (hK : X.K = K := by rfl) : PI X tg e (tI B Γ R m) := by
  subst hK
  refine pi_imp (pi_seq h) fun σ H Rk ⟨s, F, K', A, hm, k⟩ => ⟨s, F, _, A, hm, fun xs s1 v F1 H1 h1 A1 e1 ⟨q, vs, ev, hq, av⟩ => ⟨q, vs, ev, ?_⟩⟩
  rcases hq with hq | hq
  · exact .inl ⟨seqL_mono A1.sub hq, k xs s1 _ F1 H1 h1 A1 e1 (src_list hq av)⟩
  · exact .inr ⟨seqT_mono A1.sub hq, k xs s1 _ F1 H1 h1 A1 e1 (src_tup hq av)⟩
theorem tg_pairQ (i j : Nat) : Tg (gTupQ K 2 (gCons (gName i) (gCons (gName j) gNil))) (RPq K Ra Rb) [i, j] (fun Γ x => (Γ.set i (.im (Ra x.1))).set j (.im (Rb x.2))) := ⟨fun {B Γ σ F H x v Q} A hr k => by
  obtain ⟨a, v1, v2, h1, h2, h3, h4⟩ := hr
  refine ⟨a, [v1, v2], h1, sqA_mono A.sub h2, rfl, v1, [v2], rfl, v2, [], rfl, rfl, ?_⟩
  refine k _ ((A.setIm h3).setIm h4) fun vs hv => ?_
  rw [wipe_set (hv j (by simp)), wipe_set (hv i (by simp))]⟩
/-- isinstance by a word of the value that leaves its class open -/
def TyA {α : Type} (K : PySem.W.Frag) (R : α → Pd) (us : List Value) (b : Bool) : Prop := ∀ x v F H, (R x).p v F → Same F H → ∃ t, TyX K H v t ∧ PySem.W.kitAny K t us = some b
theorem tya_sq {us : List Value} {b : Bool} (h1 : PySem.W.kitAny K (.type "list") us = some b) (h2 : PySem.W.kitAny K (.type "tuple") us = some b) : TyA K (RSq K R) us b := fun x v F H ⟨a, vs, e, g, _⟩ s => by
  subst e
  rcases g with g | g
  · exact ⟨_, ty_rd_l (seqL_mono s g), h1⟩
  · exact ⟨_, ty_rd_t (seqT_mono s g), h2⟩
theorem tya_pq {us : List Value} {b : Bool} (h1 : PySem.W.kitAny K (.type "list") us = some b) (h2 : PySem.W.kitAny K (.type "tuple") us = some b) : TyA K (RPq K Ra Rb) us b := fun x v F H ⟨a, v1, v2, e, g, _⟩ s => by
  subst e
  rcases g with g | g
  · exact ⟨_, ty_rd_l (seqL_mono s g), h1⟩
  · exact ⟨_, ty_rd_t (seqT_mono s g), h2⟩
theorem te_isiA {k : Nat} {pt : Pos} {r : Bool} (P : BP X "isinstance" (.builtin "isinstance")) (he : PE X e (tE B Γ R m)) (hc : PCl X c u) (hd : PCl X d u') (ty : TyA X.K R [u, u'] r)
    (hs : starEach [e, .Tuple [c, d] k pt] X.env = (false, eval e X.env) :: starEach [.Tuple [c, d] k pt] X.env := by rfl) (hs2 : starEach [.Tuple [c, d] k pt] X.env = (false, eval (.Tuple [c, d] k pt) X.env) :: starEach [] X.env := by rfl) (hpl : (backTo pos (starEach [.Tuple [c, d] k pt] X.env)).any (·.1) = false := by rfl)
    (hs3 : starEach [c, d] X.env = (false, eval c X.env) :: starEach [d] X.env := by rfl) (hs4 : starEach [d] X.env = (false, eval d X.env) :: starEach [] X.env := by rfl) :
    PE X (.Call (.Name "isinstance" p) [e, .Tuple [c, d] k pt] [] pos) (tE B Γ RBool (fun s K => m s fun _ s1 => K r s1)) := by
  obtain ⟨v, hc, hv⟩ := hc
  obtain ⟨v', hd, hv'⟩ := hd
  exact pe_imp (pe_callB call_isiT P.g P.m P.v (pa_cons he (pa_cons (pe_tup (pa_cons hc (pa_cons hd pa_nil hs4) hs3)) pa_nil hs2) hs) P.n P.d hs hpl) fun σ H Q ⟨s, F, K', A, hm, k⟩ => ⟨s, F, _, A, hm, fun x s1 w F1 H1 h1 A1 e1 r1 => ⟨by show 2 ≤ sizeLine; decide, fun q nq => by
    obtain ⟨t, g1, g2⟩ := ty x w F1 _ r1 (A1.sub.trans (same_upd nq))
    exact ⟨w, q, [v, v'], t, [u, u'], r, rfl, upd_same, .cons hv (.cons hv' .nil), g1, g2, k r s1 (.bl r) F1 _ h1 (A1.layH nq) e1 rfl⟩⟩⟩
theorem bp_repr (hm : X.mg "repr" = none) (hg : Gl X "repr" := by rfl) : BP X "repr" (.builtin "repr") := ⟨hg, hm, by decide +kernel, by decide, by decide⟩
def reprB (b : Bool) : Str := if b then "True" else "False"
theorem te_reprB {ma : S → (Bool → S → Prop) → Prop} (P : BP X "repr" (.builtin "repr")) (ha : PE X a (tE B Γ RBool ma)) (hs : starEach [a] X.env = (false, eval a X.env) :: starEach [] X.env := by rfl) (hpl : (backTo pos (starEach [] X.env)).any (·.1) = false := by rfl) :
    PE X (.Call (.Name "repr" p) [a] [] pos) (tE B Γ RStr (fun s K => ma s fun y s1 => K (reprB y) s1)) :=
  pe_imp (pe_bf P call_repr_bool (pa_cons ha pa_nil hs) hs hpl) fun _ _ _ q => tcb_u (f := reprB) (fun x v F H Q hx e q => ⟨x, by rw [show v = V.bl x from hx], q _ rfl⟩) q
theorem reprB_inj {a b : Bool} : (reprB a = reprB b) ↔ a = b := by cases a <;> cases b <;> decide
/-- found.extend(xs) -/
theorem te_extend (i : Nat) (get : S → List α) (put : S → List α → S) {m : S → (List α → S → Prop) → Prop} {apos cpos : Pos} (he : PE X e (tE B Γ (RSq K R) m)) (hG : ∀ s, (Γ s)[i]? = some (.ow (OList R (get s))) := by intro _; rfl) (hP : ∀ s t, Γ (put s t) = (Γ s).set i (.ow (OList R t)) := by intro _ _; rfl) (hK : X.K = K := by rfl)
    (hj : ∀ xs v F H, (RSq K R xs).p v F → Same F H → ∃ b zs, v = .ref b ∧ (H b = some (.lst zs) ∨ SqT K H b zs) ∧ AllR R xs zs F)
    (hN : X.N[i]? = some xn := by rfl) (hv : Vis X.env.scope xn := by first | exact Or.inl rfl | exact Or.inr (Or.inl rfl) | exact Or.inr (Or.inr rfl)) (hd : (xn == ("__debug__" : Str)) = false := by decide) (hcd : (xn == ("__classdict__" : Str)) = false := by decide)
    (hs : starEach [e] X.env = (false, eval e X.env) :: starEach [] X.env := by rfl) (hpl : (backTo cpos (starEach [] X.env)).any (·.1) = false := by rfl)
    (hbase : attributeBase (.Name xn pn) "extend" X.env (eval (.Name xn pn) X.env) = eval (.Name xn pn) X.env := by rfl) (hline : (apos.endLine == cpos.line) = true := by rfl) (hfew : FewArgs X cpos [e] := by rfl) :
    PE X (.Call (.Attribute (.Name xn pn) "extend" apos) [e] [] cpos) (tE B Γ RNon (fun s K => m s fun y s1 => (get s1).length + y.length ≤ 1000000 ∧ K () (put s1 (get s1 ++ y)))) := by
  subst hK
  exact pe_imp (pe_bm PySem.F.plainAttrs_list PySem.F.slot_list_extend PySem.F.type_list_extend mt_extendQ (pe_var hN hv hd hcd) (pa_cons he pa_nil hs) hbase hfew hline hs hpl) fun σ H Q ⟨s, F, K', A, hm, k⟩ => by
    obtain ⟨q, o, h1, h2, h3, ⟨vs, h4, h5⟩, h6⟩ := A.ow (hG s)
    subst h4
    refine ⟨_, h1, .inl ⟨rfl, vs, SqL.of h3⟩, s, F, _, A, hm, fun y s1 v F1 H1 ⟨hz, k1⟩ A1 e1 r1 => ?_⟩
    obtain ⟨q', o', g1, g2, g3, ⟨vs', g4, g5⟩, g6⟩ := A1.ow (hG s1)
    rw [h1] at g1
    cases g1
    subst g4
    obtain ⟨b, zs, y1, y2, y3⟩ := hj y v F1 H1 r1 A1.sub
    refine ⟨q, b, vs', zs, rfl, by rw [y1], g3, y2, by rw [g5.len, y3.len]; omega, k () (put s1 (get s1 ++ y)) _ F1 _ k1 ?_ e1 rfl⟩
    rw [hP]
    exact A1.write (hG s1) h1 ⟨_, rfl, g5.append y3⟩
end
/-- lists in the heap, or tuples -/
def RSh (K : PySem.W.Frag) {α : Type} (R : α → Pd) (xs : List α) : Pd := ⟨fun v F => ∃ a vs, v = .ref a ∧ (F a = some (.lst vs) ∨ SqT K F a vs) ∧ AllR R xs vs F, fun _ _ _ e ⟨a, vs, h1, h2, h3⟩ => ⟨a, vs, h1, h2.imp (e _ _) (seqT_mono e), h3.mono e⟩⟩
section
variable {X : Cx} {S S' : Type} {B : Bs} {Γ : S → List Sl} {K : PySem.W.Frag} {α β γ ι κ : Type} {R Ra : α → Pd} {Rb : β → Pd} {e a b c d tg : Expr} {es : List Expr} {pos p : Pos} {m ma : S → (α → S → Prop) → Prop} {mb : S → (β → S → Prop) → Prop} {xn : Str} {pn : Pos} {t u u' : Value}
theorem te_lstSh {m : S → (List α → S → Prop) → Prop} (h : PE X e (tE B Γ (RLst R) m)) : PE X e (tE B Γ (RSh K R) m) :=
  pe_imp h fun σ H Q ⟨s, F, K', A, hm, k⟩ => ⟨s, F, _, A, hm, fun x s1 v F1 H1 q1 A1 e1 ⟨q, vs, g1, g2, g3⟩ => k x s1 v F1 H1 q1 A1 e1 ⟨q, vs, g1, .inl g2, g3⟩⟩
theorem te_tupSh {m : S → (List α → S → Prop) → Prop} (h : PE X e (tE B Γ (RTup K R) m)) : PE X e (tE B Γ (RSh K R) m) :=
  pe_imp h fun σ H Q ⟨s, F, K', A, hm, k⟩ => ⟨s, F, _, A, hm, fun x s1 v F1 H1 q1 A1 e1 ⟨q, vs, g1, g2, g3⟩ => k x s1 v F1 H1 q1 A1 e1 ⟨q, vs, g1, .inr g2, g3⟩⟩
theorem te_extendH (i : Nat) (get : S → List α) (put : S → List α → S) {m : S → (List α → S → Prop) → Prop} {apos cpos : Pos} (he : PE X e (tE B Γ (RSh K R) m)) (hG : ∀ s, (Γ s)[i]? = some (.ow (OList R (get s))) := by intro _; rfl) (hP : ∀ s t, Γ (put s t) = (Γ s).set i (.ow (OList R t)) := by intro _ _; rfl) (hK : X.K = K := by rfl)
    (hN : X.N[i]? = some xn := by rfl) (hv : Vis X.env.scope xn := by first | exact Or.inl rfl | exact Or.inr (Or.inl rfl) | exact Or.inr (Or.inr rfl)) (hd : (xn == ("__debug__" : Str)) = false := by decide) (hcd : (xn == ("__classdict__" : Str)) = false := by decide)
    (hs : starEach [e] X.env = (false, eval e X.env) :: starEach [] X.env := by rfl) (hpl : (backTo cpos (starEach [] X.env)).any (·.1) = false := by rfl)
    (hbase : attributeBase (.Name xn pn) "extend" X.env (eval (.Name xn pn) X.env) = eval (.Name xn pn) X.env := by rfl) (hline : (apos.endLine == cpos.line) = true := by rfl) (hfew : FewArgs X cpos [e] := by rfl) :
    PE X (.Call (.Attribute (.Name xn pn) "extend" apos) [e] [] cpos) (tE B Γ RNon (fun s K => m s fun y s1 => (get s1).length + y.length ≤ 1000000 ∧ K () (put s1 (get s1 ++ y)))) := by
  subst hK
  exact pe_imp (pe_bm PySem.F.plainAttrs_list PySem.F.slot_list_extend PySem.F.type_list_extend mt_extendQ (pe_var hN hv hd hcd) (pa_cons he pa_nil hs) hbase hfew hline hs hpl) fun σ H Q ⟨s, F, K', A, hm, k⟩ => by
    obtain ⟨q, o, h1, h2, h3, ⟨vs, h4, h5⟩, h6⟩ := A.ow (hG s)
    subst h4
    refine ⟨_, h1, .inl ⟨rfl, vs, SqL.of h3⟩, s, F, _, A, hm, fun y s1 v F1 H1 ⟨hz, k1⟩ A1 e1 r1 => ?_⟩
    obtain ⟨q', o', g1, g2, g3, ⟨vs', g4, g5⟩, g6⟩ := A1.ow (hG s1)
    rw [h1] at g1
    cases g1
    subst g4
    obtain ⟨b, zs, y1, y2, y3⟩ := r1
    refine ⟨q, b, vs', zs, rfl, by rw [y1], g3, y2.imp (A1.sub _ _) (seqT_mono A1.sub), by rw [g5.len, y3.len]; omega, k () (put s1 (get s1 ++ y)) _ F1 _ k1 ?_ e1 rfl⟩
    rw [hP]
    exact A1.write (hG s1) h1 ⟨_, rfl, g5.append y3⟩
end
end TL
namespace TL
open PySem L2

/-! ### static methods -/
structure SMet (K : PySem.W.Frag) (C : Addr) (m : Str) (p g : Addr) : Prop where
  rd : PySem.W.readsIn K C (.type "type") = true
  ga : PySem.W.specialIn K (.ref C) "__getattribute__" = some (some (.builtin "type.__getattribute__"))
  at_ : PySem.W.findCls K (.ref C) (.type "type") m = some (.get (.builtin "staticmethod.__get__") (.ref p) .none (.ref C))
  rc : ∃ rest, PySem.W.recIn K p "staticmethod" = some (.ref g :: rest)
  kp : PySem.W.keepIn K (.ref g) = true
section
variable {X : Cx} {pins : List (Addr × Obj)} {σ : L2.St} {H : Hp} {s : Shared} {C p g f : Addr} {A : Around} {E : Value → Shared → Prop} {m : Str}
theorem getmethsm_ok {pl : Sem Bool} {Q : Value × List Value → Shared → Prop} (I : Inv X pins σ H s) (k : SMet X.K C m p g) (h : ∀ s', Inv X pins σ H s' → Q (.ref g, []) s') : wpAny (model X.prog X.w) A (getMethod (.ref C) m pl) Q E s := by
  obtain ⟨rest, hp⟩ := k.rc
  refine PySem.W.method_cls I.kIn k.ga ?_
  refine PySem.W.cls_bind I.kIn k.rd k.at_ ?_
  refine wpAny_call (PySem.W.sm_get (s := { s with toks := s.toks + 1 }) I.kIn hp (PySem.W.handed_on rfl ?_))
  exact h _ (I.tok _)
def tSMeth (C : Addr) (sp : Sp) (dvs : List V) (E : XK) (ta : TE) (t : TA) : TE := fun σ H Q => ta σ H fun x H1 => x = .ref C ∧ t σ H1 fun vs H2 => sp (vs ++ dvs) H2 Q E
variable {CX : CXT} {k : Nat} {sp : Sp} {E : XK} {o e : Expr} {es : List Expr} {pos apos : Pos} {ta : TE} {t : TA} {pl : Sem Bool} {fd : FuncData} {ps : List Str} {ds : List Value} {dvs : List V}
theorem pe_smeth (he : PE X o ta) (c : SMet X.K C m p g) (F : FnOk X.prog X.w X.K X.mg X.base CX k g fd ps sp) (hr : Room k X.A) (hb : Binds X.K fd ps ds) (hd : Vals dvs ds) (hx : Passes CX X E) (ha : PA X (e :: es) t)
    (hst : starEach (e :: es) X.env = (false, eval e X.env) :: starEach es X.env := by rfl) (hpl : (backTo pos (starEach es X.env)).any (·.1) = false := by rfl)
    (ht : eval (.Call (.Attribute o m apos) (e :: es) [] pos) X.env = (do
      let ov ← eval o X.env
      standAt apos.atName
      let (f, first) ← holding [ov] (getMethod ov m pl)
      callWith pos f first (backTo pos (starEach (e :: es) X.env)) (backToKw pos (keywordEach [] X.env))) := by rfl) :
    PE X (.Call (.Attribute o m apos) (e :: es) [] pos) (tSMeth C sp dvs E ta t) := by
  refine ⟨fun pins s σ H Q I h => ?_⟩
  refine PySem.W.methodCall_KW (pl := pl) (thn (he.run pins s σ H _ I h) fun u s1 ⟨x, H1, I1, rx, ex, q⟩ => ?_) ht
  subst ex
  obtain rfl : u = Value.ref C := rx
  refine getmethsm_ok I1 c fun s2 I2 => ?_
  refine PySem.W.callWith_K (h₀ := X.base) I2.ok.mod.kin c.kp (thn (ha.run pos pins s2 σ H1 _ I2 q) fun us s3 ⟨vs, H2, I3, r, q2⟩ => ⟨I3.kIn, ?_⟩) hst hpl
  exact run_fn F hr hb hd hx I3 r q2
end
section
variable {X : Cx} {S S' : Type} {B : Bs} {Γ : S → List Sl} {K : PySem.W.Frag} {α β γ ι κ : Type} {R : α → Pd} {Rb : β → Pd} {As : ι → List Pd} {mr : S → (ι → S → Prop) → Prop} {e a : Expr} {es : List Expr} {pos apos p pn : Pos} {m : S → (α → S → Prop) → Prop} {xn mn : Str} {C g q : Addr} {k : Nat} {fd : FuncData} {ps : List Str}
theorem te_smeth {mf : ι → (α → Prop) → Prop} {pl : Sem Bool} (c : SMet X.K C mn q g) (F : FnOk X.prog X.w X.K X.mg X.base CX0 k g fd ps (spP As R mf)) (hr : Room k X.A) (hb : Binds X.K fd ps []) (ha : PA X (e :: es) (tA B Γ As mr)) (hm : X.mg xn = some (.ref C)) (hg : Gl X xn := by rfl) (hd : (xn == ("__debug__" : Str)) = false := by decide)
    (hst : starEach (e :: es) X.env = (false, eval e X.env) :: starEach es X.env := by rfl) (hpl : (backTo pos (starEach es X.env)).any (·.1) = false := by rfl)
    (ht : eval (.Call (.Attribute (.Name xn pn) mn apos) (e :: es) [] pos) X.env = (do
      let ov ← eval (.Name xn pn) X.env
      standAt apos.atName
      let (f, first) ← holding [ov] (getMethod ov mn pl)
      callWith pos f first (backTo pos (starEach (e :: es) X.env)) (backToKw pos (keywordEach [] X.env))) := by rfl) :
    PE X (.Call (.Attribute (.Name xn pn) mn apos) (e :: es) [] pos) (tE B Γ R (fun s K => mr s fun y s1 => mf y fun r => K r s1)) :=
  pe_imp (pe_smeth (dvs := []) (E := E0) (pe_glob hg hm (v := .ref C) rfl hd) c F hr hb .nil (pass0 (X := X)) ha hst hpl ht) fun σ H Q z => ⟨rfl, call_p (E := E0) z⟩
/-! ### items of a tuple by place -/
theorem te_tnIx {x1 : Nat} {j : Int} (i : Nat) {get : ι → α} {mi : S → (ι → S → Prop) → Prop} (h : PE X e (tE B Γ (RTn K As) mi)) (hi : ∀ y vs F, AllP (As y) vs F → ∃ v, vs[i]? = some v ∧ (R (get y)).p v F) (hji : j = (i : Int) := by rfl) (hs : PlainIx (.Constant (.int j) x1 p) := by exact fun _ _ => rfl) (hK : X.K = K := by rfl) :
    PE X (.Subscript e (.Constant (.int j) x1 p) pos) (tE B Γ R (fun s K => mi s fun y s1 => K (get y) s1)) := by
  subst hK
  subst hji
  exact pe_imp (pe_ix ix_tup h pe_int hs) fun σ H Q ⟨s, F, K', A, hm, k⟩ => ⟨s, F, _, A, hm, fun y s1 v F1 H1 q1 A1 e1 ⟨t, vs, g1, g2, g3⟩ => by
    obtain ⟨w, h1, h2⟩ := hi y vs F1 g3
    exact ⟨t, vs, (i : Int), w, g1, rfl, seqT_mono A1.sub g2, atI_nat h1, k _ s1 w F1 H1 q1 A1 e1 h2⟩⟩
/-- sorted(d), d known -/
theorem tn_sortedD {md : S → (List (Int × α) → S → Prop) → Prop} (Pb : BP X "sorted" (.builtin "sorted")) (ha : PE X a (tE B Γ (RDict mkI R) md)) (hc : X.calm = true := by rfl) (hs : starEach [a] X.env = (false, eval a X.env) :: starEach [] X.env := by rfl) (hpl : (backTo pos (starEach [] X.env)).any (·.1) = false := by rfl) :
    PE X (.Call (.Name "sorted" p) [a] [] pos) (tN B Γ RInt (fun s K => md s fun d s1 => d.length < 64 ∧ K (sortI (d.map (·.1))) s1)) :=
  pe_imp (pe_bf Pb (call_sortedDI hc) (pa_cons ha pa_nil hs) hs hpl) fun σ H Q ⟨s, F, K', A, hm, k⟩ => ⟨s, F, _, A, hm, fun d s1 v F1 H1 ⟨hz, q1⟩ A1 e1 ⟨q, kvs, h1, h2, h5⟩ => by
    subst h1
    refine ⟨q, _, d.map (·.1), rfl, .inl (A1.sub _ _ h2), ?_, by rw [List.length_map]; exact hz, fun ys l hp hup nl => ?_⟩
    · rw [List.map_map, ← h5.keys, List.map_map]
      rfl
    · have e : ys = sortI (d.map (·.1)) := rise_unique (hp.trans (sortI_perm _).symm) hup (sortI_up _)
      subst e
      have fr := A1.fresh nl
      exact k _ s1 l _ F1 _ q1 (A1.layH nl) e1 upd_same fr.1 fr.2 (A1.notOwn nl) (AllR.ints.mpr rfl)⟩
end
theorem units1 {k : Nat} {A : Around} (r : Room k A) : A.units + 1 < cLine := by have := r.un; omega
theorem ty_tn {K : PySem.W.Frag} {ι : Type} {As : ι → List Pd} : TyR K (RTn K As) (.type "tuple") := fun x v F H ⟨a, vs, h, h1, _⟩ e => by
  subst h; exact ty_rd_t (seqT_mono e h1)
end TL
namespace TL
open PySem L2
/-! ### values in the parameters' order, by places -/
theorem allP_app {F : Hp} : ∀ {Ps Qs : List Pd} {vs ws : List V}, AllP Ps vs F → AllP Qs ws F → AllP (Ps ++ Qs) (vs ++ ws) F
  | [], _, [], _, _, h => h
  | _ :: _, _, _ :: _, _, ⟨h1, h2⟩, h => ⟨h1, allP_app h2 h⟩
theorem allP_at {F : Hp} : ∀ {Ps : List Pd} {vs : List V} (i : Nat), AllP Ps vs F → (Ps[i]? = none ∧ vs[i]? = none) ∨ ∃ P v, Ps[i]? = some P ∧ vs[i]? = some v ∧ P.p v F
  | [], [], i, _ => .inl ⟨by simp, by simp⟩
  | P :: Ps, v :: vs, 0, ⟨h, _⟩ => .inr ⟨P, v, rfl, rfl, h⟩
  | P :: Ps, v :: vs, i + 1, ⟨_, h⟩ => by
    rw [List.getElem?_cons_succ, List.getElem?_cons_succ]
    exact allP_at i h
theorem allP_perm {F : Hp} {Ps : List Pd} {vs : List V} (h : AllP Ps vs F) : ∀ idx : List Nat, AllP (idx.filterMap fun i => Ps[i]?) (idx.filterMap fun i => vs[i]?) F
  | [] => trivial
  | i :: idx => by
    rw [List.filterMap_cons, List.filterMap_cons]
    rcases allP_at i h with ⟨h1, h2⟩ | ⟨P, v, h1, h2, h3⟩
    · rw [h1, h2]; exact allP_perm h idx
    · rw [h1, h2]; exact ⟨h3, allP_perm h idx⟩
theorem ord_at {ι ι' κ : Type} {As : ι → List Pd} {As' : ι' → List Pd} {Aw : κ → List Pd} {φ : ι → ι' → κ} {idx : List Nat} (h : ∀ y z, Aw (φ y z) = permG idx (As y) (As' z)) : Ord As As' Aw φ idx := fun y z vs ws F h1 h2 => by
  rw [h y z]
  exact allP_perm (allP_app h1 h2) idx
end TL
namespace TL
open PySem PySem.Spec PySem.W PyProof.Rows L2
/-! ### super().__init__(..) as the first statement of an __init__ -/
structure FnScopeS (N P : List Str) (sc : Scope) : Prop where
  kind : sc.kind = .function
  co : sc.isCoroutine = false
  gen : sc.isGenerator = false
  nd : N.Nodup
  pre : N.take P.length = P
  par : ∀ x ∈ P, sc.names.lookup x = some .local
  nocell : ∀ y ∈ sc.names, y.2 ≠ .cell
  free : ∀ x ∈ sc.names, x.2 = .free → x.1 = "__class__"
  cls : sc.names.lookup ("__class__" : Str) = some .free
  sup : sc.names.lookup ("super" : Str) = some .globalImplicit
/-- a method that closes over its class (at D, its cell at cc), its code object at cda -/
structure FunS (K : PySem.W.Frag) (file x qual : Str) (st : Stmt) (f : Addr) (fd : FuncData) (cda cc D : Addr) : Prop where
  ex : ∃ (oc : Value) (od : Option Addr) (kV doc pm ct : Value) (an : Option Addr) (osl : Array (Option Value)),
    fd = PySem.W.ksFn x qual (defArgs st) (defBody st) (defScope st) .none kV doc pm an (.ref cda) ct cc ∧ K.lookup f = some ⟨oc, od, .func fd, osl⟩ ∧ PySem.W.codeIn K (.ref cda) qual = true
  code : ∃ (c : Value) (d : Option Addr) (vs : Array Value) (sl : Array (Option Value)) (tf : Tok), K.lookup cda = some ⟨c, d, .fields vs, sl⟩ ∧ vs[2]? = some (.str file tf)
  cell : ∃ (c : Value) (d : Option Addr) (sl : Array (Option Value)), K.lookup cc = some ⟨c, d, .cell (some (.ref D)), sl⟩
/-- the context of its body -/
def cxS (P : Program) (w : World) (K : PySem.W.Frag) (mg : Str → Option Value) (base : Heap) (N : List Str) (qual : Str) (scope : Scope) (f cda cc : Addr) (A : Around) (outer : List Env) (s : Shared) (H : Hp) : Cx where
  prog := P
  w := w
  K := K
  mg := mg
  base := base
  A := A.deeper (ksEnv qual scope s.heap.objs.size f (.ref cda) cc)
  N := N
  s_0 := s
  H_0 := H
  env := ksEnv qual scope s.heap.objs.size f (.ref cda) cc
  outer := outer
  stack := ksEnv qual scope s.heap.objs.size f (.ref cda) cc :: outer
  ex := []
  calm := true
  fn := fun _ => false
  pn := []
  xe := fun _ _ => False
theorem lookup_rev {us : List Value} : ∀ {ps : List Str} {vs : List Value} {i : Nat} {x : Str} {u : Value}, ps.Nodup → ps[i]? = some x → vs[i]? = some u → ((ps.zip vs).reverse).lookup x = some u := by
  have app : ∀ (a b : List (Str × Value)) (x : Str), (a ++ b).lookup x = (a.lookup x).or (b.lookup x) := by
    intro a b x
    induction a with
    | nil => simp
    | cons p a ih =>
      obtain ⟨n, v⟩ := p
      rw [List.cons_append, List.lookup_cons, List.lookup_cons]
      cases x == n
      · exact ih
      · rfl
  have out : ∀ (ps : List Str) (vs : List Value) (x : Str), x ∉ ps → ((ps.zip vs).reverse).lookup x = none := by
    intro ps
    induction ps with
    | nil => intro vs x _; simp
    | cons p ps ih =>
      intro vs x hx
      cases vs with
      | nil => simp
      | cons v vs =>
        rw [List.zip_cons_cons, List.reverse_cons, app, ih vs x (fun z => hx (List.mem_cons_of_mem _ z))]
        have : (x == p) = false := by
          rw [beq_eq_false_iff_ne]
          exact fun z => hx (z ▸ List.mem_cons_self)
        simp [List.lookup_cons, this]
  intro ps
  induction ps with
  | nil => intro vs i x u _ h; simp at h
  | cons p ps ih =>
    intro vs i x u nd h1 h2
    cases vs with
    | nil => simp at h2
    | cons v vs =>
      rw [List.nodup_cons] at nd
      rw [List.zip_cons_cons, List.reverse_cons, app]
      cases i with
      | zero =>
        simp at h1 h2
        subst h1; subst h2
        rw [out ps vs p nd.1]
        simp [List.lookup_cons]
      | succ i =>
        rw [ih nd.2 (by simpa using h1) (by simpa using h2)]
        rfl
section
variable {P : Program} {w : World} {K : PySem.W.Frag} {mg : Str → Option Value} {base : Heap} {file x qual : Str} {st : Stmt} {f cda cc D C pi : Addr} {fd : FuncData} {N ps : List Str} {k : Nat} {sp spi : Sp} {p0 p1 apos pos epos : Pos} {e1 : Expr} {es : List Expr} {rest : List Stmt}
theorem inv_startS {A : Around} {outer : List Env} {s : Shared} {H : Hp} {us : List Value} {vs : List V} {h1 : Heap} {t : Nat} (S : FnScopeS N ps (defScope st)) (F : FunS K file x qual st f fd cda cc D) (hd : A.handled = none) (e0 : Env0 P w K mg base A outer s H) (hl : vs.length = ps.length) (r : Vals vs us)
    (hns : h1.Ns s.heap.objs.size (fun y => (ps.zip us).reverse.lookup y)) (hk : ∀ b o, s.heap.get? b = some o → h1.get? b = some o) :
    Inv (cxS P w K mg base N qual (defScope st) f cda cc A outer s H) [] (L2.start N vs) H { s with heap := h1, toks := t } := by
  have hpl : ps.length ≤ N.length := by have := congrArg List.length S.pre; rw [List.length_take] at this; omega
  have noA : ∀ b : Addr, b ∉ (cxS P w K mg base N qual (defScope st) f cda cc A outer s H).ex := fun b z => absurd (show b ∈ ([] : List Addr) from z) (by simp)
  obtain ⟨c0, d0, sl0, hcell⟩ := F.cell
  have bc : base.get? cc = some ⟨c0, d0, .cell (some (.ref D)), sl0⟩ := e0.mod.kin _ _ hcell
  have lk : ∀ y c, (cxS P w K mg base N qual (defScope st) f cda cc A outer s H).env.cells.lookup y = some c → y = "__class__" ∧ c = cc := fun y c h => by
    have h : List.lookup y [(("__class__" : Str), cc)] = some c := h
    rw [List.lookup_cons] at h
    split at h
    · rename_i q
      exact ⟨beq_iff_eq.mp q, (Option.some.inj h).symm⟩
    · cases h
  refine ⟨⟨e0.mod, S.kind, rfl, rfl, Nat.le_refl _, fun y z c h1 h2 => ?_, fun y hy => ?_, fun y c h _ => (Bool.noConfusion (show false = true from h)), fun _ => hd, Around.frames_deeper e0.frames, .inr ⟨rfl, rfl⟩, fun b z => absurd z (noA b), e0.bs, e0.bsz, fun b _ _ => noA b, fun b z => absurd z (noA b), e0.funs, e0.frf⟩,
    rfl, e0.bare, Un.kept hk, ⟨_, hns, fun i y v h1 h2 h3 => ?_⟩, fun y c h => ?_, e0.hok.fresh (Nat.le_refl _), fun y c h => ?_, fun p hp => absurd (show p ∈ ([] : List (Addr × Obj)) from hp) (by simp), e0.hok.kept hk, ?_⟩
  · rw [(lk y c h1).1, (lk z c h2).1]
  · have hy : (defScope st).names.lookup y = some .cell ∨ (defScope st).names.lookup y = some .free := hy
    rcases hy with hy | hy
    · exact absurd rfl (S.nocell _ (PySem.mem_of_lookup hy))
    · have := S.free _ (PySem.mem_of_lookup hy) rfl
      have this : y = "__class__" := this
      subst this
      exact ⟨cc, by show List.lookup _ [(("__class__" : Str), cc)] = some cc; simp [List.lookup_cons]⟩
  · have hi : i < vs.length := by
      unfold L2.start at h2
      by_cases hi : i < vs.length
      · exact hi
      · rw [List.getElem?_append_right (by simpa using hi)] at h2
        rw [List.getElem?_replicate] at h2
        split at h2 <;> cases h2
    have ha : vs[i]? = some v := by
      unfold L2.start at h2
      rw [List.getElem?_append_left (by simpa using hi), List.getElem?_map] at h2
      cases e : vs[i]? with
      | none => rw [e] at h2; cases h2
      | some a => rw [e] at h2; cases h2; rfl
    obtain ⟨u, hu, rv⟩ := r.get ha
    have hp : ps[i]? = some y := by
      rw [← S.pre, List.getElem?_take_of_lt (by omega)]; exact h1
    have ndP : ps.Nodup := by rw [← S.pre]; exact S.nd.sublist (List.take_sublist _ _)
    exact ⟨u, rv, .inl ⟨S.par y (List.mem_of_getElem? hp), lookup_rev (us := us) ndP hp hu⟩⟩
  · obtain ⟨rfl, rfl⟩ := lk y c h
    exact ⟨_, _, hk _ _ (e0.bs _ _ bc).1, rfl⟩
  · obtain ⟨rfl, rfl⟩ := lk y c h
    exact (e0.bs _ _ bc).2
  · unfold L2.start
    show _ = N.length
    rw [List.length_append, List.length_map, List.length_replicate]
    omega
theorem fn_super (F : FunS K file x qual st f fd cda cc D) (S : FnScopeS N ps (defScope st)) (hst : defBody st = .Expr (.Call (.Attribute (.Call (.Name "super" p0) [] [] p1) "__init__" apos) (e1 :: es) [] pos) epos :: rest)
    (hfile : ((P.main.file : Str) == file) = true) (htop : (P.main.scope.names.lookup ("super" : Str)).isSome = false) (hboot : bootBuiltins "super" = some (.type "super")) (hmg : mg "super" = none)
    (hself : ∃ ar, ((defArgs st).posonlyargs ++ (defArgs st).args).head? = some ar ∧ ps.head? = some ar.arg)
    (hmC : PySem.W.mroIn K C (.ref D) = some true) (hsi : PySem.W.ks_superIn K C D "__init__" = some (some (.ref pi))) (hti : PySem.W.typeIn K (.ref pi) = some (.type "function")) (hfi : PySem.W.fnIn K pi = true) (hop : PySem.W.nsIn K cStatics "thirdparty.any" = some none)
    (hcD : (PySem.W.clsIn K D).isSome = true)
    (len : ∀ vs H Q E, sp vs H Q E → vs.length = ps.length) (FP : FnR P w K mg base CX0 k pi spi)
    (he : ∀ env : Env, starEach (e1 :: es) env = (false, eval e1 env) :: starEach es env) (hpl : ∀ env : Env, (backTo pos (starEach es env)).any (·.1) = false)
    (heval : ∀ env : Env, ∃ pl : Sem Bool, eval (.Call (.Attribute (.Call (.Name "super" p0) [] [] p1) "__init__" apos) (e1 :: es) [] pos) env = (do
      let ov ← attributeBase (.Call (.Name "super" p0) [] [] p1) "__init__" env (eval (.Call (.Name "super" p0) [] [] p1) env)
      standAt apos.atName
      let (f, first) ← holding [ov] (getMethod ov "__init__" pl)
      callWith pos f first (backTo pos (starEach (e1 :: es) env)) []))
    (hint : ∀ env : Env, env.scope.kind = .function → interactive env = false)
    (hsw : ∀ env : Env, swapsWith (.Call (.Attribute (.Call (.Name "super" p0) [] [] p1) "__init__" apos) (e1 :: es) [] pos) none epos.line env = pure false)
    (hb : ∀ (A : Around) (outer : List Env) (s : Shared) (H : Hp) (vs : List V) (Q : VK) (E : XK), Room k (A.deeper (ksEnv qual (defScope st) s.heap.objs.size f (.ref cda) cc)) → sp vs H Q E →
      ∃ (a dx : Addr) (t : TA) (tn : TS), vs.head? = some (.ref a) ∧ H a = some (.ins C dx []) ∧ PA (cxS P w K mg base N qual (defScope st) f cda cc A outer s H) (e1 :: es) t ∧ PSs (cxS P w K mg base N qual (defScope st) f cda cc A outer s H) rest tn ∧
        ∀ q, H q = none → t (L2.start N vs) (upd H q (.met pi a)) fun us H1 => H1 q = some (.met pi a) ∧ spi (.ref a :: us) H1 (fun _ H2 => tn { nx := fun _ H' => Q .non H', rt := Q } (L2.start N vs) H2) E) :
    FnOk P w K mg base CX0 (k + 1) f fd ps sp := by
  obtain ⟨oc, od, kV, doc, pm, ct, an, osl, rfl, lkf, hcd⟩ := F.ex
  refine ⟨len, fun A outer s H args us vs Q E hr e0 hb' r hsp => ?_⟩
  have hl := len _ _ _ _ hsp
  have KX : K.In s.heap := e0.mod.kin.keeps fun b o e => (e0.bs b o e).1
  have lim : s.heap.NoLimit := e0.mod.nolimit.keeps fun b o e => (e0.bs b o e).1
  have hloc : ∀ y ∈ ps.zip us, (defScope st).names.lookup y.1 = some .local := fun y hy => S.par y.1 (List.of_mem_zip hy).1
  refine ks_codeAny_call_defAt (fd := PySem.W.ksFn x qual (defArgs st) (defBody st) (defScope st) .none kV doc pm an (.ref cda) ct cc) (body := defBody st) (binds := ps.zip us) hr.depth (KX _ _ lkf) rfl lim (PySem.W.codeRec_of KX hcd) rfl hb' S.nocell hloc (fun h1 hns hk => ?_) S.co S.gen S.kind
  obtain ⟨a, dx, t, tn, hv, ha, PAt, PSn, hq⟩ := hb A outer s H vs Q E (hr.deeper _) hsp
  have I : Inv (cxS P w K mg base N qual (defScope st) f cda cc A outer s H) [] (L2.start N vs) H { s with heap := h1, toks := s.toks + (ps.zip us).length } := inv_startS S F hr.hd e0 hl r hns hk
  show PySem.wpAt (model P w) (A.deeper (ksEnv qual (defScope st) s.heap.objs.size f (.ref cda) cc)) (.func (defBody st) (ksEnv qual (defScope st) s.heap.objs.size f (.ref cda) cc)) (execs (defBody st) (ksEnv qual (defScope st) s.heap.objs.size f (.ref cda) cc)) _ _ _
  refine ks_wpAt_mono (Q := SP (cxS P w K mg base N qual (defScope st) f cda cc A outer s H) [] { nx := fun _ H' => Q .non H', rt := Q }) (E := fun _ _ => False) ?_ (fun fl s' hs => ?_) (fun _ _ z => z.elim)
  · obtain ⟨ar, har, hps⟩ := hself
    obtain ⟨v0, vs', rfl⟩ : ∃ v0 vs', vs = v0 :: vs' := by
      cases vs with
      | nil => cases hv
      | cons v0 vs' => exact ⟨v0, vs', rfl⟩
    have hv : v0 = .ref a := Option.some.inj hv
    subst hv
    obtain ⟨u0, us', rfl⟩ : ∃ u0 us', us = u0 :: us' := by
      cases r with
      | cons a b => exact ⟨_, _, rfl⟩
    have ru : RelV (.ref a) u0 := by cases r with | cons a b => exact a
    obtain rfl : u0 = Value.ref a := ru
    have hps0 : ps[0]? = some ar.arg := by rw [← List.head?_eq_getElem?]; exact hps
    have ndP : ps.Nodup := by rw [← S.pre]; exact S.nd.sublist (List.take_sublist _ _)
    have hself : (ps.zip (Value.ref a :: us')).reverse.lookup ar.arg = some (.ref a) := lookup_rev (us := []) (i := 0) ndP hps0 rfl
    obtain ⟨c1, d1, vs1, sl1, tf, hcode, hvs⟩ := F.code
    obtain ⟨c0, d0, sl0, hcell⟩ := F.cell
    obtain ⟨cdD, hD⟩ := Option.isSome_iff_exists.mp hcD
    obtain ⟨mA, O, rO, _, _, _⟩ := ins_get I.hok ha
    have X1 : K.In h1 := I.kIn
    obtain ⟨oD, hD1, hD2⟩ : ∃ oD, h1.get? D = some oD ∧ oD.data = .cls cdD := by
      unfold PySem.W.clsIn at hD
      split at hD
      · rename_i c d cd' sl ho
        cases hD
        exact ⟨_, X1 _ _ ho, rfl⟩
      · cases hD
    obtain ⟨mb, hb1, hb2⟩ := I.mod.blt
    have hk' : ∀ b o, h1.get? b = some o → h1.get? b = some o := fun _ _ z => z
    obtain ⟨pl, hev⟩ := heval (ksEnv qual (defScope st) s.heap.objs.size f (.ref cda) cc)
    rw [hst]
    refine ks_wpAt_execs_cons (ks_wpAt_Expr_any (ks_wpAt_MethodCall (pl := pl) ?_ hev) (hint _ S.kind) (hsw _))
    refine ks_wpAt_super_base (env := ksEnv qual (defScope st) s.heap.objs.size f (.ref cda) cc) S.sup S.cls rfl rfl (X1 _ _ lkf) rfl har rfl (X1 _ _ hcode) rfl hvs hfile htop ?_
    refine PySem.W.ks_loadName_global S.kind S.sup (Calls.loadGlobal_builtin (env := ksEnv qual (defScope st) s.heap.objs.size f (.ref cda) cc) (mg := mg) (mb := mb) (I.mod.glob.keeps I.bk) hmg (hb1.keeps I.bk) ((hb2 _ (by decide +kernel)).trans hboot) ⟨rfl, ?_⟩)
    refine wpAny_loadName_free (env := ksEnv qual (defScope st) s.heap.objs.size f (.ref cda) cc) S.kind S.cls (c := cc) (v := .ref D) rfl ⟨_, X1 _ _ hcell, rfl⟩ ?_
    refine wpAny_loadName_local (env := ksEnv qual (defScope st) s.heap.objs.size f (.ref cda) cc) (v := .ref a) S.kind (S.par _ (List.mem_of_getElem? hps0)) hns hself ?_
    refine ks_wpAny_isType_cls hD1 hD2 ⟨rfl, ?_⟩
    refine ks_wpAny_call_super (C := C) hD1 hD2 O.obj rfl (fun c e => by cases e) (PySem.W.looks_mroIn X1 hmC) (fun h2 e2 k2 => ?_)
    have I2 : Inv (cxS P w K mg base N qual (defScope st) f cda cc A outer s H) [] (L2.start N (.ref a :: vs')) H { s with heap := h2, toks := s.toks + (ps.zip (Value.ref a :: us')).length } := I.kept k2
    have X2 : K.In h2 := I2.kIn
    obtain ⟨cdC, hC, hal⟩ := Option.bind_eq_some_iff.mp hsi
    obtain ⟨oP, hoP, hoPc⟩ : ∃ of, h2.get? pi = some of ∧ of.cls = .type "function" := by
      have ht' : (K.lookup pi).map (·.cls) = some (.type "function") := hti
      cases z : K.lookup pi with
      | none => rw [z] at ht'; cases ht'
      | some of => rw [z] at ht'; exact ⟨of, X2 _ _ z, Option.some.inj ht'⟩
    have naC : a ≠ C := by
      rintro rfl
      unfold PySem.W.clsIn at hC
      split at hC
      · rename_i c d cd' sl ho
        have e := X1 _ _ ho
        rw [O.obj] at e
        cases e
      · cases hC
    refine ks_wpAny_getMethod_super e2 (PySem.W.looks_opaque X2 hop) (l₀ := cdC.mro) (fun A' Q' E' s' k' q => wpAny_bind ((PySem.W.looks_clsIn X2 hC) A' _ E' s' k' (wpAny_pure q))) rfl X2 hal hoP hoPc naC rfl ?_
    have nq : H h2.objs.size = none := I2.hok.fresh (Nat.le_refl _)
    have I3 : Inv (cxS P w K mg base N qual (defScope st) f cda cc A outer s H) [] (L2.start N (.ref a :: vs')) (upd H h2.objs.size (.met pi a)) { s with heap := h2.push (PySem.W.methodObj (.ref pi) (.ref a)), toks := s.toks + (ps.zip (Value.ref a :: us')).length + 1 } :=
      I2.laid (a := h2.objs.size) (o := .met pi a) (fun b u z => Heap.get?_push_of_some _ z) (Nat.le_refl _)
        (show (h2.push (PySem.W.methodObj (.ref pi) (.ref a))).get? h2.objs.size = some (PySem.W.methodObj (.ref pi) (.ref a)) from Heap.get?_push_size h2 rfl)
    have hrun := PAt.run pos [] _ _ _ _ I3 (hq _ nq)
    rw [show (cxS P w K mg base N qual (defScope st) f cda cc A outer s H).env = ksEnv qual (defScope st) s.heap.objs.size f (.ref cda) cc from rfl, he] at hrun
    refine callwith_met (X := cxS P w K mg base N qual (defScope st) f cda cc A outer s H) (g := pi) (a := a) (by rw [he]; show ((false || (backTo pos (starEach es _)).any (·.1)) || _) = false; rw [hpl]; rfl) hfi ?_
    rw [he]
    refine Calls.evalArgs_plain (thn hrun fun us1 s4 ⟨ws, H4, I4, rw4, hm4, hs4⟩ => ⟨met_P I4 hm4, ?_⟩)
    refine wpAny_call (codeAny_mono (PySem.W.method_call (met_P I4 hm4).1 (run_fnR (us := Value.ref a :: us1) (vs := V.ref a :: ws) FP (hr.deeper _) (fun _ _ _ _ _ _ _ z => z.elim) I4 (.cons rfl rw4) hs4)) fun r s5 hr5 => ?_)
    cases r with
    | error e => exact hr5.elim
    | ok fl =>
      cases fl with
      | ret u =>
        obtain ⟨v5, H5, I5, _, q5⟩ := hr5
        exact wpAt_of_wpAny (PSn.run [] _ _ _ _ I5 q5)
      | next => exact False.elim hr5
      | brk => exact False.elim hr5
      | cont => exact False.elim hr5
  · have fin : ∀ {σ' : L2.St} {H' : Hp} {v : V} {u : Value}, Inv (cxS P w K mg base N qual (defScope st) f cda cc A outer s H) [] σ' H' s' → RelV v u → Q v H' → CE outer P w H s Q u s' :=
      fun {σ' H' v u} J rv q => ⟨v, H', J.os, J.bare, J.base, J.hok, rv, q⟩
    cases fl with
    | ret u =>
      obtain ⟨v, σ', H', J, rv, q⟩ := hs
      exact fin J rv q
    | next =>
      obtain ⟨σ', H', J, q⟩ := hs
      exact fin (v := V.non) (u := Value.none) J rfl q
    | brk =>
      obtain ⟨_, _, _, q⟩ := hs
      exact False.elim q
    | cont =>
      obtain ⟨_, _, _, q⟩ := hs
      exact False.elim q
end
end TL
namespace TL
open PySem PySem.Spec PyProof.Rows L2
/-! ### values told by any predicate -/
def RId (P : Pd) : Pd := P
section
variable {X : Cx} {S : Type} {B : Bs} {Γ : S → List Sl} {K : PySem.W.Frag} {α ι : Type} {R : α → Pd} {e : Expr} {es : List Expr} {P : Xt} {ss : List Stmt} {m : S → (α → S → Prop) → Prop}
theorem te_id (h : PE X e (tE B Γ R m)) : PE X e (tE B Γ RId (fun s K => m s fun x s1 => K (R x) s1)) :=
  pe_imp h fun σ H Q ⟨s, F, K', A, hm, k⟩ => ⟨s, F, _, A, hm, fun x s1 v F1 H1 h1 A1 e1 r1 => k (R x) s1 v F1 H1 h1 A1 e1 r1⟩
theorem te_as1 {P' : Pd} (hi : ∀ x v F, (R x).p v F → P'.p v F) (h : PE X e (tE B Γ R m)) : PE X e (tE B Γ (fun _ : Unit => P') (fun s K => m s fun _ s1 => K () s1)) :=
  pe_imp h fun σ H Q ⟨s, F, K', A, hm, k⟩ => ⟨s, F, _, A, hm, fun x s1 v F1 H1 h1 A1 e1 r1 => k () s1 v F1 H1 h1 A1 e1 (hi _ _ _ r1)⟩
theorem te_seqOf {i : Nat} {x : Str} {pos : Pos} {P' : Pd} {Ps : List Pd} (hi : ∀ v F, P'.p v F → (RSq K RId Ps).p v F) (h : PE X e (tE B Γ (fun _ : Unit => P') (fun s K => K () s))) : PE X e (tE B Γ (RSq K RId) (fun s K => K Ps s)) :=
  pe_imp h fun σ H Q ⟨s, F, K', A, hm, k⟩ => ⟨s, F, _, A, hm, fun _ s1 v F1 H1 h1 A1 e1 r1 => k Ps s1 v F1 H1 h1 A1 e1 (hi _ _ r1)⟩
theorem ts_pre {A : Prop} {m : S → Prop} (h : A → PSs X ss (tS B Γ P m)) : PSs X ss (tS B Γ P (fun s => A ∧ m s)) :=
  pss_imp (pss_ex fun i : { _u : Unit // A } => h i.2) fun D σ H ⟨s, F, A', hm, L⟩ => ⟨⟨(), hm.1⟩, s, F, A', hm.2, L⟩
theorem ts_or {m1 m2 : S → Prop} (h1 : PSs X ss (tS B Γ P m1)) (h2 : PSs X ss (tS B Γ P m2)) : PSs X ss (tS B Γ P (fun s => m1 s ∨ m2 s)) :=
  pss_imp (pss_ex (t := fun b : Bool => if b = true then tS B Γ P m1 else tS B Γ P m2) fun b => by cases b with | true => exact h1 | false => exact h2) fun D σ H ⟨s, F, A', hm, L⟩ => by
    rcases hm with hm | hm
    · exact ⟨true, s, F, A', hm, L⟩
    · exact ⟨false, s, F, A', hm, L⟩
theorem ts_exi {m : ι → S → Prop} (h : ∀ i, PSs X ss (tS B Γ P (m i))) : PSs X ss (tS B Γ P (fun s => ∃ i, m i s)) :=
  pss_imp (pss_ex h) fun D σ H ⟨s, F, A', ⟨i, hm⟩, L⟩ => ⟨i, s, F, A', hm, L⟩
/-- arguments, each told by a predicate -/
theorem ta_dyn {As : ι → List Pd} {mr : S → (ι → S → Prop) → Prop} {g : ι → Str × List Pd} (hg : ∀ y, As y = RStr (g y).1 :: (g y).2) (h : PA X es (tA B Γ As mr)) : PA X es (tA B Γ (fun z : Str × List Pd => RStr z.1 :: z.2) (fun s K => mr s fun y s1 => K (g y) s1)) :=
  pa_imp h fun σ H Q ⟨s, F, K', A, hm, k⟩ => ⟨s, F, _, A, hm, fun y s1 vs F1 H1 h1 A1 e1 r1 => k (g y) s1 vs F1 H1 h1 A1 e1 (by rw [hg y] at r1; exact r1)⟩
end
/-- what fixed gives back, for values of a depth -/
def Atom (K : PySem.W.Frag) (P : Pd) : Prop := TyA K (fun _ : Unit => P) [.type "list", .type "tuple"] false
def mFix (K : PySem.W.Frag) : Nat → Pd → (Pd → Prop) → Prop
  | 0, P, k => Atom K P ∧ k P
  | n + 1, P, k => (Atom K P ∧ k P) ∨ ∃ Ps : List Pd, (∀ v F, P.p v F → (RSq K RId Ps).p v F) ∧ (Ps.length ≤ 1000000 ∧ mMap Ps (mFix K n) fun ys => k (RTup K RId ys))
theorem mFix_atom {K : PySem.W.Frag} {P : Pd} {k : Pd → Prop} (h : Atom K P) (hk : k P) : ∀ n, mFix K n P k
  | 0 => ⟨h, hk⟩
  | _ + 1 => .inl ⟨h, hk⟩
theorem atom_ty {K : PySem.W.Frag} {α : Type} {R : α → Pd} {t : Value} (ty : TyR K R t) (h : PySem.W.kitAny K t [.type "list", .type "tuple"] = some false) (x : α) : Atom K (R x) := fun _ v F H r s => ⟨t, ty x v F H r s, h⟩
theorem atom_int {K : PySem.W.Frag} (x : Int) : Atom K (RInt x) := atom_ty ty_int (kit2 (r1 := false) (r2 := false) (by decide +kernel) (by decide +kernel)) x
theorem mMap_fix {K : PySem.W.Frag} {n : Nat} : ∀ {Ps : List Pd} {k : List Pd → Prop}, (∀ P ∈ Ps, Atom K P) → k Ps → mMap Ps (mFix K n) k
  | [], k, _, h => h
  | P :: Ps, k, ha, h => mFix_atom (ha P List.mem_cons_self) (mMap_fix (fun Q hQ => ha Q (List.mem_cons_of_mem _ hQ)) h) n

theorem allR_id {F : Hp} : ∀ {Ps : List Pd} {vs : List V}, AllP Ps vs F ↔ AllR RId Ps vs F
  | [], [] => Iff.rfl
  | [], _ :: _ => Iff.rfl
  | _ :: _, [] => Iff.rfl
  | P :: Ps, v :: vs => by
    show (P.p v F ∧ AllP Ps vs F) ↔ (P.p v F ∧ AllR RId Ps vs F)
    rw [allR_id]
/-! ### an __init__ whose end lies open -/
def spIo {ι β : Type} (C : Addr) (As : ι → List Pd) (fl : β → List (Str × Pd)) (m : ι → (β → Prop) → Prop) : Sp := fun vs H Q _ => ∃ y F K a dx ws, vs = .ref a :: ws ∧ AllP (As y) ws F ∧ Same F H ∧ F a = none ∧ H a = some (.ins C dx []) ∧ m y K ∧
  ∀ r F' H' o, K r → (OIns C (fl r)).p o F' → F' a = none → H' a = some o → Same F F' → (∀ b u, b ≠ a → H b = some u → H' b = some u) → Same F' H' → (∀ b u, F' b = some u → F b = some u ∨ H b = none) → Q .non H'
theorem start_at {N : List Str} {C a dx : Addr} {F H : Hp} {Ps : List Pd} {ws : List V} (hN : Ps.length + 1 ≤ N.length) (h1 : AllP Ps ws F) (h2 : Same F H) (h3 : F a = none) (h4 : H a = some (.ins C dx [])) :
    At ⟨F, H, fun b => b = a, []⟩ (.bo a (OIns C []) :: (Ps.map .im ++ List.replicate (N.length - Ps.length - 1) .any)) (L2.start N (.ref a :: ws)) F H := by
  have hv : ws.length = Ps.length := h1.len
  obtain ⟨r1, r2⟩ := fits_start (B := ⟨F, H, fun b => b = a, []⟩) (H := H) (N.length - Ps.length - 1) h1
  have es : L2.start N (.ref a :: ws) = some (.ref a) :: (ws.map some ++ List.replicate (N.length - Ps.length - 1) none) := by
    unfold L2.start
    rw [List.map_cons, List.cons_append, List.length_cons, hv, Nat.sub_add_eq]
  refine ⟨h2, Same.refl _, fun a o e _ => e, fun a o e => .inl e, ?_, ?_, fun b z => ?_, fun _ z => nomatch z⟩
  · rw [es]
    exact ⟨⟨_, rfl, h3, h4, ⟨dx, [], rfl, trivial⟩, rfl⟩, r1⟩
  · rw [es]
    show ([a] ++ owA _ _).Nodup
    rw [r2]
    simp
  · have z : b = a := z
    subst z
    exact ⟨h3, ⟨_, h4⟩, _, h4⟩
theorem start_args {N : List Str} {a : Addr} {F H H1 : Hp} {Ps : List Pd} {ws : List V} (hN : Ps.length + 1 ≤ N.length) (h1 : AllP Ps ws F) (h2 : Same F H) :
    At ⟨F, H, fun _ => False, []⟩ (.any :: (Ps.map .im ++ List.replicate (N.length - Ps.length - 1) .any)) (L2.start N (.ref a :: ws)) F H := by
  have hv : ws.length = Ps.length := h1.len
  obtain ⟨r1, r2⟩ := fits_start (B := ⟨F, H, fun _ => False, []⟩) (H := H) (N.length - Ps.length - 1) h1
  have es : L2.start N (.ref a :: ws) = some (.ref a) :: (ws.map some ++ List.replicate (N.length - Ps.length - 1) none) := by
    unfold L2.start
    rw [List.map_cons, List.cons_append, List.length_cons, hv, Nat.sub_add_eq]
  refine ⟨h2, Same.refl _, fun a o e _ => e, fun a o e => .inl e, ?_, ?_, fun b z => z.elim, fun _ z => nomatch z⟩
  · rw [es]
    exact ⟨trivial, r1⟩
  · rw [es]
    show ([] ++ owA _ _).Nodup
    rw [r2]
    simp
theorem cxUp0 : StX.CXUp CX0 := fun _ _ _ _ _ _ _ _ _ _ _ z => z
section
variable {P : Program} {w : World} {K : PySem.W.Frag} {mg : Str → Option Value} {base : Heap} {xq qual : Str} {st : Stmt} {f C : Addr} {fd : FuncData} {N : List Str} {k : Nat} {β : Type} {fl : β → List (Str × Pd)}
/-- def __init__(self, word, *parts) -/
theorem fnStarIo {s0 s1 pv : Str} {mf : Str × List Pd → (β → Prop) → Prop} (F : Fun K xq qual st f fd) (Sc : FnScope N [s0, s1, pv] (defScope st)) (hm : ∀ y K, mf y K → y.2.length ≤ 1000)
    (hbind : ∀ (kV doc pm : Value) (an : Option Addr) (cdv ct : Value) (us rest : List Value), us.length = 2 → bindArgs (PySem.W.fnOf xq qual (defArgs st) (defBody st) (defScope st) .none kV doc pm an cdv ct) ⟨us ++ rest, []⟩ = (newTuple rest >>= fun t => pure ([s0, s1].zip us ++ [(pv, t)])))
    (hb : ∀ (cdv : Value) (A : Around) (outer : List Env) (s : Shared) (H : Hp) (E : XK), Room k (A.deeper (PyProof.Rows.envOfC qual (defScope st) s.heap.objs.size f cdv)) → ∀ (a : Addr) (y : Str × List Pd) (Kf : β → Prop) (B : Bs),
      PSs (cxOf CX0 P w K mg base N qual (defScope st) f cdv A outer s H E).nox (defBody st) (tS B (fun _ : Unit => .bo a (OIns C []) :: ([RStr y.1, RTup K RId y.2].map .im ++ List.replicate (N.length - [RStr y.1, RTup K RId y.2].length - 1) .any)) (xI B C a fl Kf) (fun _ => mf y Kf))) :
    FnR P w K mg base CX0 (k + 1) f (spIo C (fun z : Str × List Pd => RStr z.1 :: z.2) fl mf) := by
  obtain ⟨oc, od, kV, doc, pm, an, cdv, ct, osl, rfl, lk, hcd⟩ := F.ex
  have hN3 : 3 ≤ N.length := by
    have := congrArg List.length Sc.pre
    rw [List.length_take] at this
    simp only [List.length_cons, List.length_nil] at this
    omega
  have FR := StX.fn_star (ps := [s0, s1]) (pv := pv) (CX := CX0) (P := P) (w := w) (mg := mg) (base := base) (k := k)
    (sp := fun vs H Q _ => ∃ (y : Str × List Pd) (F : Hp) (Kf : β → Prop) (a dx p : Addr) (w0 : V), vs = [.ref a, w0, .ref p] ∧ AllP [RStr y.1, RTup K RId y.2] [w0, .ref p] F ∧ Same F H ∧ F a = none ∧ H a = some (.ins C dx []) ∧ mf y Kf ∧
      ∀ r F' H' o, Kf r → (OIns C (fl r)).p o F' → F' a = none → H' a = some o → Same F F' → (∀ b u, b ≠ a → H b = some u → H' b = some u) → Same F' H' → (∀ b u, F' b = some u → F b = some u ∨ H b = none) → Q .non H')
    lk hcd Sc cxUp0 (fun us rest hl => hbind kV doc pm an cdv ct us rest hl) (fun A outer s H vs Q E hr ⟨y, F, Kf, a, dx, p, w0, ev, h1, h2, h3, h4, h5, h6⟩ => by
      subst ev
      refine ⟨_, (hb cdv A outer s H E hr a y Kf ⟨F, H, fun b => b = a, []⟩).nox, (), F, start_at hN3 h1 h2 h3 h4, h5, ⟨fun σ F' H' ⟨r, o, q1, ⟨q3, q4, q5, q6⟩, q7, q8, q9⟩ => ?_, fun _ _ _ z => z.elim, fun _ _ _ z => z.elim, fun _ _ _ z => z.elim⟩⟩
      exact h6 r F' H' o q1 q9 q7 q8 q3 (fun b u nb e => q5 b u e nb) q4 q6)
  intro A outer s H us vs Q E hr e0 r ⟨y, F, Kf, a, dx, ws, ev, h1, h2, h3, h4, h5, h6⟩
  subst ev
  cases ws with
  | nil => exact h1.elim
  | cons w0 parts =>
    have hp : parts.length = y.2.length := h1.2.len
    refine FR A outer s H us _ Q E hr e0 r ⟨[.ref a, w0], parts, rfl, rfl, ?_, fun p np => ?_⟩
    · have := hm y Kf h5
      exact Nat.le_of_lt (small1000 (by omega))
    · have fp : F p = none := by
        cases q : F p with
        | none => rfl
        | some o => rw [h2 _ _ q] at np; cases np
      have sF : Same F (upd F p (.tup parts)) := same_upd fp
      have sH : Same H (upd H p (.tup parts)) := same_upd np
      have ap : a ≠ p := fun z => by rw [z, np] at h4; cases h4
      refine ⟨y, upd F p (.tup parts), Kf, a, dx, p, w0, rfl, ⟨(RStr y.1).mono _ _ _ sF h1.1, ⟨p, parts, rfl, SqT.of upd_same, allR_id.mp (AllP.mono sF h1.2)⟩, trivial⟩, fun b u e => ?_, by rw [upd_ne ap]; exact h3, by rw [upd_ne ap]; exact h4, h5, fun r F' H' o g1 g2 g3 g4 g5 g6 g7 g8 => ?_⟩
      · by_cases hb : b = p
        · subst hb; rw [upd_same] at e ⊢; exact e
        · rw [upd_ne hb] at e ⊢; exact h2 _ _ e
      · refine h6 r F' H' o g1 g2 g3 g4 (sF.trans g5) (fun b u nb e => g6 b u nb (sH _ _ e)) g7 fun b u e => ?_
        rcases g8 b u e with z | z
        · by_cases hb : b = p
          · subst hb; exact .inr np
          · rw [upd_ne hb] at z; exact .inl z
        · right
          by_cases hb : b = p
          · subst hb; exact np
          · rw [upd_ne hb] at z; exact z
end
end TL
namespace TL
open PySem PySem.Spec PyProof.Rows L2
/-! ### a.f, a.g, .. = a tuple -/
def gAttr (K : PySem.W.Frag) (ta : TE) (f : Str) : TG := fun v σ H Q => ta σ H fun x H2 => ∃ a C dx fs, x = .ref a ∧ H2 a = some (.ins C dx fs) ∧ Cls K C ∧ NoAttr K C f ∧ fs.length < 1000 ∧ Q σ (upd H2 a (.ins C dx (putF f v fs)))
theorem pg_attr {X : Cx} {o : Expr} {f : Str} {pos : Pos} {ta : TE} (ho : PE X o ta) : PG X (.Attribute o f pos) (gAttr X.K ta f) := by
  refine ⟨fun pins s σ H v u Q I r h => ?_⟩
  rw [assign_Attribute]
  refine wpAny_bind (wpAny_holding (thn (ho.run pins s σ H _ I h) fun ov s1 ⟨x, H1, I1, rx, a, C, dx, fs, ex, ea, c, n, l, q⟩ => ?_))
  subst ex
  obtain rfl : ov = Value.ref a := rx
  refine wpAny_bind (wpAny_standAt (wpAny_bind (wpAny_holding (setattr_ok I1 ea c n l r fun s2 I2 => ?_))))
  exact wpAny_release ⟨σ, _, I2, q⟩
def gFlds (K : PySem.W.Frag) (ta : TE) : List Str → TGs
  | [] => gNil
  | f :: fs => gCons (gAttr K ta f) (gFlds K ta fs)
theorem lookup_app {α : Type} {f : Str} : ∀ {a b : List (Str × α)}, a.lookup f = none → (a ++ b).lookup f = b.lookup f
  | [], _, _ => rfl
  | (n, v) :: a, b, h => by
    rw [List.lookup_cons] at h
    rw [List.cons_append, List.lookup_cons]
    cases q : f == n with
    | true => rw [q] at h; cases h
    | false => rw [q] at h; exact lookup_app h
theorem flds_run {K : PySem.W.Frag} {B : Bs} {C a : Addr} {i : Nat} {F : Hp} {σ : L2.St} {Q : L2.St → Hp → Prop} (c : Cls K C) : ∀ {fns : List Str} {Ps : List Pd} {vs : List V} {fl : List (Str × Pd)} {Γ : List Sl} {H : Hp},
    At B Γ σ F H → Γ[i]? = some (.bo a (OIns C fl)) → AllP Ps vs F → fns.length = Ps.length → (∀ f ∈ fns, NoAttr K C f) → (∀ f ∈ fns, fl.lookup f = none) → fns.Nodup → fl.length + fns.length < 1000 →
    (∀ H', At B (Γ.set i (.bo a (OIns C (fl ++ fns.zip Ps)))) σ F H' → Q σ H') → gFlds K (tVar i) fns vs σ H Q
  | [], [], [], fl, Γ, H, A, e, _, _, _, _, _, _, k => ⟨rfl, k H (by
      have : Γ.set i (.bo a (OIns C (fl ++ ([] : List Str).zip ([] : List Pd)))) = Γ := by
        rw [List.zip_nil_left, List.append_nil]
        apply List.ext_getElem?
        intro j
        by_cases hj : i = j
        · subst hj
          rw [List.getElem?_set_self (by have := (List.getElem?_eq_some_iff.mp e).1; exact this), e]
        · rw [List.getElem?_set_ne hj]
      rw [this]; exact A)⟩
  | f :: fns, P :: Ps, v :: vs, fl, Γ, H, A, e, hv, hl, hn, hf, nd, hz, k => by
    rw [List.nodup_cons] at nd
    simp only [List.length_cons] at hl hz
    obtain ⟨o, h2, h3, h4, ⟨dx, fs, ho, hfo⟩, h5⟩ := A.bo e
    subst ho
    have fl0 := hf f List.mem_cons_self
    refine ⟨v, vs, rfl, .ref a, h2, a, C, dx, fs, rfl, h4, c, hn f List.mem_cons_self, by rw [hfo.len]; omega, ?_⟩
    have A1 := A.writeB e (O' := OIns C (fl ++ [(f, P)])) (o := .ins C dx (putF f v fs)) ⟨dx, _, rfl, hfo.put hv.1 fl0⟩
    have hi : i < Γ.length := (List.getElem?_eq_some_iff.mp e).1
    refine flds_run c (fl := fl ++ [(f, P)]) A1 (by rw [List.getElem?_set_self hi]) hv.2 (by omega) (fun g hg => hn g (List.mem_cons_of_mem _ hg)) (fun g hg => ?_) nd.2 (by rw [List.length_append]; simp only [List.length_cons, List.length_nil]; omega) fun H' A' => k H' ?_
    · rw [lookup_app (hf g (List.mem_cons_of_mem _ hg)), List.lookup_cons]
      have : (g == f) = false := by
        rw [beq_eq_false_iff_ne]
        exact fun z => nd.1 (z ▸ hg)
      rw [this]; rfl
    · rw [List.set_set] at A'
      rw [List.append_assoc] at A'
      exact A'
  | [], _ :: _, _, _, _, _, _, _, _, hl, _, _, _, _, _ => by simp at hl
  | _ :: _, [], _, _, _, _, _, _, _, hl, _, _, _, _, _ => by simp at hl
  | [], [], _ :: _, _, _, _, _, _, hv, _, _, _, _, _, _ => hv.elim
  | _ :: _, _ :: _, [], _, _, _, _, _, hv, _, _, _, _, _, _ => hv.elim
section
variable {X : Cx} {S : Type} {B : Bs} {Γ : S → List Sl} {K : PySem.W.Frag} {P : Xt} {e : Expr} {es : List Expr} {rest : List Stmt} {C a : Addr} {m : S → (List Pd → S → Prop) → Prop} {mr : List Pd → S → Prop} {pos p' : Pos} {kt i : Nat} {fl : S → List (Str × Pd)} {fns : List Str}
/-- self.f, self.g, .. = e in an __init__ -/
theorem ts_selfs (he : PE X e (tE B Γ (RTup K RId) m)) (c : Cls X.K C) (hn : ∀ f ∈ fns, NoAttr X.K C f) (hg : PGs X es (gFlds X.K (tVar i) fns)) (hr : ∀ x, PSs X rest (tS B (fun s => (Γ s).set i (.bo a (OIns C (fl s ++ fns.zip x)))) P (mr x)))
    (hf : ∀ s, (∀ f ∈ fns, (fl s).lookup f = none) ∧ fns.Nodup ∧ (fl s).length + fns.length < 1000)
    (hG : ∀ s, (Γ s)[i]? = some (.bo a (OIns C (fl s))) := by intro _; rfl) (hK : X.K = K := by rfl) (hc : X.calm = true := by rfl)
    (hlen : (assignEach es X.env).length = fns.length := by rfl) (hst : (assignEach es X.env).findIdx? (·.1) = none := by rfl)
    (hs : swapsWithSole [.Tuple es kt p'] e pos.line X.env = pure false := by rfl) (hw : swappedStores [.Tuple es kt p'] e X.env = pure none := by rfl) (h1 : (assignEach [.Tuple es kt p'] X.env).map (·.2) = [assign (.Tuple es kt p') X.env] := by rfl) :
    PSs X (.Assign [.Tuple es kt p'] e pos :: rest) (tS B Γ P (fun s => m s fun x s1 => fns.length = x.length ∧ mr x s1)) := by
  subst hK
  refine pss_imp (pss_cons (ps_asg he (pg_tup hc hg hlen hst) hs hw h1) (pss_ex hr)) fun D σ H ⟨s, F, A, hm, L⟩ => ⟨s, F, _, A, hm, fun x s1 v F1 H1 ⟨hx, k1⟩ A1 e1 ⟨q, vs, ev, hq, hv⟩ => ?_⟩
  subst ev
  have hv : AllP x vs F1 := allR_id.mpr hv
  obtain ⟨f1, f2, f3⟩ := hf s1
  exact ⟨q, vs, rfl, seqT_mono A1.sub hq, by rw [hv.len, hx], flds_run c A1 (hG s1) hv hx hn f1 f2 f3 fun H' A' => ⟨x, s1, F1, A', k1, L⟩⟩
end
section
variable {P : Program} {w : World} {K : PySem.W.Frag} {mg : Str → Option Value} {base : Heap} {file x qual : Str} {st : Stmt} {f cda cc C pi : Addr} {fd : FuncData} {N ps : List Str} {k : Nat} {p0 p1 apos pos epos : Pos} {e1 : Expr} {es : List Expr} {rest : List Stmt}
variable {ι β γ : Type} {flS : γ → List (Str × Pd)} {fl : β → List (Str × Pd)} {mS : Str × List Pd → (γ → Prop) → Prop} {As : ι → List Pd} {zf : ι → Str × List Pd} {mr : ι → γ → (β → Prop) → Prop}
theorem fnIS (F : FunS K file x qual st f fd cda cc C) (S : FnScopeS N ps (defScope st)) (hst : defBody st = .Expr (.Call (.Attribute (.Call (.Name "super" p0) [] [] p1) "__init__" apos) (e1 :: es) [] pos) epos :: rest)
    (hfile : ((P.main.file : Str) == file) = true) (htop : (P.main.scope.names.lookup ("super" : Str)).isSome = false) (hmg : mg "super" = none)
    (hself : ∃ ar, ((defArgs st).posonlyargs ++ (defArgs st).args).head? = some ar ∧ ps.head? = some ar.arg)
    (hmC : PySem.W.mroIn K C (.ref C) = some true) (hsi : PySem.W.ks_superIn K C C "__init__" = some (some (.ref pi))) (hti : PySem.W.typeIn K (.ref pi) = some (.type "function")) (hfi : PySem.W.fnIn K pi = true) (hop : PySem.W.nsIn K cStatics "thirdparty.any" = some none)
    (hl : ∀ y, (As y).length + 1 = ps.length) (FP : FnR P w K mg base CX0 k pi (spIo C (fun z : Str × List Pd => RStr z.1 :: z.2) flS mS))
    (he : ∀ env : Env, starEach (e1 :: es) env = (false, eval e1 env) :: starEach es env) (hpl : ∀ env : Env, (backTo pos (starEach es env)).any (·.1) = false)
    (heval : ∀ env : Env, ∃ pl : Sem Bool, eval (.Call (.Attribute (.Call (.Name "super" p0) [] [] p1) "__init__" apos) (e1 :: es) [] pos) env = (do
      let ov ← attributeBase (.Call (.Name "super" p0) [] [] p1) "__init__" env (eval (.Call (.Name "super" p0) [] [] p1) env)
      standAt apos.atName
      let (f, first) ← holding [ov] (getMethod ov "__init__" pl)
      callWith pos f first (backTo pos (starEach (e1 :: es) env)) []))
    (hsw : ∀ env : Env, swapsWith (.Call (.Attribute (.Call (.Name "super" p0) [] [] p1) "__init__" apos) (e1 :: es) [] pos) none epos.line env = pure false)
    (hargs : ∀ (A : Around) (outer : List Env) (s : Shared) (H : Hp) (y : ι) (B : Bs), PA (cxS P w K mg base N qual (defScope st) f cda cc A outer s H) (e1 :: es) (tA B (fun _ : Unit => .any :: ((As y).map .im ++ List.replicate (N.length - (As y).length - 1) .any)) (fun z : Str × List Pd => RStr z.1 :: z.2) (fun s K => K (zf y) s)))
    (hrest : ∀ (A : Around) (outer : List Env) (s : Shared) (H : Hp), Room k (A.deeper (PySem.W.ksEnv qual (defScope st) s.heap.objs.size f (.ref cda) cc)) → ∀ (a : Addr) (y : ι) (r : γ) (Kf : β → Prop) (B : Bs),
      PSs (cxS P w K mg base N qual (defScope st) f cda cc A outer s H) rest (tS B (fun _ : Unit => .bo a (OIns C (flS r)) :: ((As y).map .im ++ List.replicate (N.length - (As y).length - 1) .any)) (xI B C a fl Kf) (fun _ => mr y r Kf))) :
    FnOk P w K mg base CX0 (k + 1) f fd ps (spI C As (fun r => RIns C (fl r)) (fun y Kf => mS (zf y) fun r => mr y r Kf)) := by
  have hcD : (PySem.W.clsIn K C).isSome = true := by
    obtain ⟨cd, h1, _⟩ := Option.bind_eq_some_iff.mp hmC
    rw [h1]; rfl
  refine fn_super F S hst hfile htop (by rw [show bootBuiltins "super" = some (.type "super") from by first | rfl | decide +kernel]) hmg hself hmC hsi hti hfi hop hcD (fun vs H Q E ⟨y, F, K', a, dx, ws, h1, h2, _⟩ => by rw [h1, List.length_cons, h2.len, hl]) FP he hpl heval
    (fun env h => by unfold interactive; rw [h]; rfl) hsw fun A outer s H vs Q E hr ⟨y, F0, K', a, dx, ws, ev, h1, h2, h3, h4, h5, h6, h7, hm, hc⟩ => ?_
  subst ev
  have hN : (As y).length + 1 ≤ N.length := by
    rw [hl]
    have := congrArg List.length S.pre
    rw [List.length_take] at this
    omega
  refine ⟨a, dx, _, _, rfl, h6, pa_ex fun q : Addr => hargs A outer s H y ⟨F0, upd H q (.met pi a), fun _ => False, []⟩, pss_ex fun r : γ => hrest A outer s H hr a y r K' ⟨F0, H, fun b => b = a, []⟩, fun q nq => ?_⟩
  have aq : a ≠ q := fun z => by rw [z, nq] at h6; cases h6
  refine ⟨q, (), F0, fun z _ => z = zf y, start_args (a := a) (H1 := H) hN h1 (h2.trans (same_upd nq)), rfl, fun z s' us F1 H1 hz A1 e1 r1 => ⟨A1.kept q _ upd_same (fun z => z), ?_⟩⟩
  subst hz
  have k1 : ∀ b u, H b = some u → H1 b = some u := fun b u e => A1.kept b u (by show upd H q _ b = _; rw [upd_ne (ne_of_none e nq)]; exact e) (fun z => z)
  have nw1 : ∀ b u, F1 b = some u → F0 b = some u ∨ H b = none := fun b u e => by
    rcases A1.new b u e with z | z
    · exact .inl z
    · right
      have z : upd H q (.met pi a) b = none := z
      by_cases hb : b = q
      · rw [hb]; exact nq
      · rw [upd_ne hb] at z; exact z
  have fa : F1 a = none := by
    cases g : F1 a with
    | none => rfl
    | some u =>
      rcases nw1 a u g with z | z
      · rw [h3] at z; cases z
      · rw [h6] at z; cases z
  refine ⟨zf y, F1, fun r => mr y r K', a, dx, us, rfl, r1, A1.sub, fa, k1 _ _ h6, hm, fun r F' H' o g1 g2 g3 g4 g5 g6 g7 g8 => ?_⟩
  have kk : ∀ b u, b ≠ a → H b = some u → H' b = some u := fun b u nb e => g6 b u nb (k1 b u e)
  have nw : ∀ b u, F' b = some u → F0 b = some u ∨ H b = none := fun b u e => by
    rcases g8 b u e with z | z
    · exact nw1 b u z
    · right
      cases q' : H b with
      | none => rfl
      | some u' => rw [k1 b u' q'] at z; cases z
  have hv : ws.length = (As y).length := h1.len
  obtain ⟨r1', r2'⟩ := fits_start (B := ⟨F0, H, fun b => b = a, []⟩) (H := H') (N.length - (As y).length - 1) (AllP.mono (e1.trans g5) h1)
  have es' : L2.start N (.ref a :: ws) = some (.ref a) :: (ws.map some ++ List.replicate (N.length - (As y).length - 1) none) := by
    unfold L2.start
    rw [List.map_cons, List.cons_append, List.length_cons, hv, Nat.sub_add_eq]
  refine ⟨r, (), F', ⟨g7, e1.trans g5, fun b u e nb => kk b u nb e, nw, ?_, ?_, fun b z => ?_, fun _ z => nomatch z⟩, g1, ⟨fun σ F2 H2 ⟨r, o, q1, ⟨q3, q4, q5, q6⟩, q7, q8, ⟨dx', fs, q9, q10⟩⟩ => ?_, fun _ _ _ z => z.elim, fun _ _ _ z => z.elim, fun _ _ _ z => z.elim⟩⟩
  · rw [es']
    exact ⟨⟨_, rfl, g3, g4, g2, rfl⟩, r1'⟩
  · rw [es']
    show ([a] ++ owA _ _).Nodup
    rw [r2']
    simp
  · have z : b = a := z
    subst z
    exact ⟨g3, ⟨_, g4⟩, _, h6⟩
  · have sF : Same F2 (upd F2 a o) := same_upd q7
    refine hc r (upd F2 a o) H2 q1 ⟨a, dx', fs, rfl, by rw [upd_same, q9], q10.mono sF⟩ (q3.trans sF) (fun b u nb e => q5 b u e nb) (fun b u e => ?_) fun b u e => ?_
    · by_cases hb : b = a
      · subst hb; rw [upd_same] at e; cases e; exact q8
      · rw [upd_ne hb] at e; exact q4 _ _ e
    · by_cases hb : b = a
      · exact .inr (.inl hb)
      · rw [upd_ne hb] at e
        rcases q6 b u e with z | z
        · exact .inl z
        · exact .inr (.inr z)
end
end TL
namespace TL
open PySem L2
/-! ### a value of one sort or another -/
def RSum {α β : Type} (R : α → Pd) (R' : β → Pd) : α ⊕ β → Pd
  | .inl a => R a
  | .inr b => R' b
section
variable {X : Cx} {S : Type} {B : Bs} {Γ : S → List Sl} {α β γ ι ι1 ι2 : Type} {R : α → Pd} {R' : β → Pd} {e : Expr} {m : S → (α → S → Prop) → Prop}
theorem te_inl (h : PE X e (tE B Γ R m)) : PE X e (tE B Γ (RSum R R') (fun s K => m s fun x s1 => K (.inl x) s1)) :=
  pe_imp h fun σ H Q ⟨s, F, K', A, hm, k⟩ => ⟨s, F, _, A, hm, fun x s1 v F1 H1 h1 A1 e1 r1 => k (.inl x) s1 v F1 H1 h1 A1 e1 r1⟩
theorem te_inr {m : S → (β → S → Prop) → Prop} (h : PE X e (tE B Γ R' m)) : PE X e (tE B Γ (RSum R R') (fun s K => m s fun x s1 => K (.inr x) s1)) :=
  pe_imp h fun σ H Q ⟨s, F, K', A, hm, k⟩ => ⟨s, F, _, A, hm, fun x s1 v F1 H1 h1 A1 e1 r1 => k (.inr x) s1 v F1 H1 h1 A1 e1 r1⟩
theorem te_outl {m : S → (α ⊕ β → S → Prop) → Prop} (h : PE X e (tE B Γ (RSum R R') m)) : PE X e (tE B Γ R (fun s K => m s fun x s1 => ∃ y, x = .inl y ∧ K y s1)) :=
  pe_imp h fun σ H Q ⟨s, F, K', A, hm, k⟩ => ⟨s, F, _, A, hm, fun x s1 v F1 H1 h1 A1 e1 r1 => by
    obtain ⟨y, rfl, h2⟩ := h1
    exact k y s1 v F1 H1 h2 A1 e1 r1⟩
theorem te_outr {m : S → (α ⊕ β → S → Prop) → Prop} (h : PE X e (tE B Γ (RSum R R') m)) : PE X e (tE B Γ R' (fun s K => m s fun x s1 => ∃ y, x = .inr y ∧ K y s1)) :=
  pe_imp h fun σ H Q ⟨s, F, K', A, hm, k⟩ => ⟨s, F, _, A, hm, fun x s1 v F1 H1 h1 A1 e1 r1 => by
    obtain ⟨y, rfl, h2⟩ := h1
    exact k y s1 v F1 H1 h2 A1 e1 r1⟩
end
/-- a def whose arguments are of one sort or another -/
theorem fnok_cases {P : Program} {w : World} {K : PySem.W.Frag} {mg : Str → Option Value} {base : Heap} {CX : CXT} {k : Nat} {f : Addr} {fd : FuncData} {ps : List Str} {ι ι1 ι2 γ : Type} {As : ι → List Pd} {As1 : ι1 → List Pd} {As2 : ι2 → List Pd} {R : γ → Pd}
    {m1 : ι1 → (γ → Prop) → Prop} {m2 : ι2 → (γ → Prop) → Prop} (h1 : FnOk P w K mg base CX k f fd ps (spP As1 R m1)) (h2 : FnOk P w K mg base CX k f fd ps (spP As2 R m2)) (φ : ι → ι1 ⊕ ι2)
    (hA1 : ∀ y a, φ y = .inl a → ∀ vs F, AllP (As y) vs F → AllP (As1 a) vs F) (hA2 : ∀ y b, φ y = .inr b → ∀ vs F, AllP (As y) vs F → AllP (As2 b) vs F) :
    FnOk P w K mg base CX k f fd ps (spP As R (fun y Kf => match φ y with | .inl a => m1 a Kf | .inr b => m2 b Kf)) := by
  have key : ∀ vs H Q E, spP As R (fun y Kf => match φ y with | .inl a => m1 a Kf | .inr b => m2 b Kf) vs H Q E → spP As1 R m1 vs H Q E ∨ spP As2 R m2 vs H Q E := by
    rintro vs H Q E ⟨y, F, Kf, h, e, hm, k⟩
    cases q : φ y with
    | inl a => rw [q] at hm; exact .inl ⟨a, F, Kf, hA1 y a q _ _ h, e, hm, k⟩
    | inr b => rw [q] at hm; exact .inr ⟨b, F, Kf, hA2 y b q _ _ h, e, hm, k⟩
  refine ⟨fun vs H Q E h => ?_, fun A outer s H args us vs Q E hr e0 hb r h => ?_⟩
  · rcases key vs H Q E h with z | z
    · exact h1.len _ _ _ _ z
    · exact h2.len _ _ _ _ z
  · rcases key vs H Q E h with z | z
    · exact h1.run A outer s H args us vs Q E hr e0 hb r z
    · exact h2.run A outer s H args us vs Q E hr e0 hb r z
/-! ### the truth of instances by their own __bool__ -/
section
variable {prog : Program} {w : World}
theorem bool_new_in (x : Addr) : MeetsIn prog w (Builtin.«bool.__new__» ⟨[.type "bool", .ref x], []⟩) (fun A R s => wpAny (model prog w) A.in1 (truthy (.ref x)) (fun b s' => R (.ok (.ret (.bool b))) s') (fun e s' => R (.error e) s') s) :=
  fun A R s h => by
    have f1 := PySem.F.conv_sub_bool
    repeat (first
      | (with_reducible refine wpAny_mono h (fun b s' hb => ?_) fun _ _ e => e)
      | (refine wpAny_bind (m := truthy (.ref x)) (wpAny_mono h (fun b s' hb => ?_) fun _ _ e => e))
      | wp_step)
    all_goals first | exact ⟨_, rfl, hb⟩ | exact hb | skip
end
section
variable {X : Cx} {α β : Type} {C D f : Addr} {fd : FuncData} {ps : List Str} {k : Nat}
theorem run_own1 {sp : Sp} {pins : List (Addr × Obj)} {s : Shared} {σ : L2.St} {H : Hp} {a : Addr} {Q : VK} {Ar : Around} (Fn : FnOk X.prog X.w X.K X.mg X.base CX0 k f fd ps sp) (hb : Binds X.K fd ps []) (hr : Room k Ar) (hfr : Ar.frames = X.A.frames) (I : Inv X pins σ H s) (hsp : sp [.ref a] H Q E0) :
    wpAny (model X.prog X.w) Ar (call (.ref f) [.ref a]) (EP X pins σ Q) X.xe s := by
  have e := I.env0
  have e0 : Env0 X.prog X.w X.K X.mg X.base Ar X.stack s H := ⟨by rw [hfr]; exact e.frames, e.mod, e.bs, e.bsz, e.funs, e.frf, e.hok, e.bare⟩
  have hl := Fn.len _ _ _ _ hsp
  have r2 : Vals [V.ref a] [Value.ref a] := .cons rfl .nil
  refine wpAny_call (codeAny_mono (Fn.run Ar X.stack s H ⟨[.ref a], []⟩ [.ref a] [.ref a] Q E0 hr e0 (by
    have z := hb s [.ref a] I.kIn (by simpa using hl)
    simpa using z) r2 hsp) fun r s' hq => ?_)
  cases r with
  | error ev => exact pass0 (X := X) pins σ H s ev s' I hq
  | ok fl =>
    cases fl with
    | ret u =>
      obtain ⟨z, H', I', rz, q⟩ := I.after hq
      exact ⟨z, H', I', rz, q⟩
    | next => exact False.elim hq
    | brk => exact False.elim hq
    | cont => exact False.elim hq
/-- the truth of a value, wherever it is asked -/
def TruC (X : Cx) (r : V → Hp → (Bool → Hp → Prop) → Prop) : Prop :=
  ∀ (Ar : Around) (pins : List (Addr × Obj)) (s : Shared) (σ : L2.St) (H : Hp) (a : Addr) (Q : Bool → Hp → Prop), (Ar = X.A ∨ Ar = X.A.in1.in1) → Inv X pins σ H s → r (.ref a) H Q →
    wpAny (model X.prog X.w) Ar (truthy (.ref a)) (TP X pins σ Q) X.xe s
theorem tru_own {sp : Sp} (Fn : FnOk X.prog X.w X.K X.mg X.base CX0 k f fd ps sp) (hs : PySem.W.findIn X.K (.ref C) "__bool__" = some (some (.ref f))) (hf : PySem.W.isFn X.K (.ref f) = true) (hb : Binds X.K fd ps []) (hr : Room (k + 2) X.A) :
    TruC X (fun x H Q => (∃ a dx fs, x = .ref a ∧ H a = some (.ins C dx fs)) ∧ sp [x] H (fun v H' => ∃ c, v = .bl c ∧ Q c H') E0) := by
  intro Ar pins s σ H a Q hA I ⟨⟨a', dx, fs, ea, ha⟩, hsp⟩
  cases ea
  obtain ⟨mA, J, _⟩ := ins_get I.hok ha
  obtain ⟨od, J, _⟩ := J.look
  obtain ⟨m, hF⟩ := I.fr
  have hr' : Room k Ar ∧ Ar.frames = X.A.frames := by
    rcases hA with rfl | rfl
    · exact ⟨hr.mono (by omega), rfl⟩
    · exact ⟨(hr.in1).in1, rfl⟩
  refine PySem.W.truthy_K hF I.ok.mod.kin J hs hf ?_
  refine wpAny_mono (run_own1 Fn hb hr'.1 hr'.2 I hsp) (fun r s' ⟨z, H', I', rz, c, ec, q⟩ => ?_) fun _ _ e => e
  subst ec
  cases (show r = Value.bool c from rz)
  exact ⟨H', I', q⟩
theorem tru_or {r r' : V → Hp → (Bool → Hp → Prop) → Prop} (h : TruC X r) (h' : TruC X r') : TruC X (fun x H Q => r x H Q ∨ r' x H Q) := by
  intro Ar pins s σ H a Q hA I q
  rcases q with q | q
  · exact h Ar pins s σ H a Q hA I q
  · exact h' Ar pins s σ H a Q hA I q
theorem call_boolC {r : V → Hp → (Bool → Hp → Prop) → Prop} (h : TruC X r) : CallR X (.type "bool") (fun xs H Q => ∃ a, xs = [.ref a] ∧ r (.ref a) H (fun c H' => Q (.bl c) H')) := by
  intro pins s σ H xs us Q I rv ⟨a, ex, q⟩
  subst ex
  obtain rfl := Vals.ref1 rv
  refine PySem.callType_newIn PySem.F.called_bool PySem.F.newNe_bool (PySem.F.typeCall_bool_1 _) (PySem.F.newCall_bool_1 _) (fun obj => PySem.F.args_object_init_2 obj _) PySem.F.entry_bool_new (bool_new_in a) ?_
  refine wpAny_mono (h _ pins s σ H a _ (.inr rfl) I q) (fun c s' ⟨H', I', q'⟩ => ?_) fun _ _ e => e
  exact ⟨rfl, .bl c, H', I', rfl, q'⟩
theorem tru_truR {r : V → Hp → (Bool → Hp → Prop) → Prop} (h : TruC X r) : TruR X (fun x H Q => (∃ a, x = .ref a) ∧ r x H Q) := by
  intro pins s σ H x v Q I rv ⟨⟨a, ea⟩, q⟩
  subst ea
  cases rv
  exact h X.A pins s σ H a Q (.inl rfl) I q
/-- a typed value's truth -/
structure TruT (X : Cx) (R : α → Pd) (f : α → Bool) : Prop where
  ex : ∃ r : V → Hp → (Bool → Hp → Prop) → Prop, TruC X r ∧ ∀ (x : α) (v : V) (F H : Hp) (Q : Bool → Hp → Prop), (R x).p v F → Same F H → (∀ F' H', Same F F' → Same H H' → Same F' H' → Nw F H F' → Q (f x) H') → (∃ a, v = .ref a) ∧ r v H Q
theorem trut_own {R : α → Pd} {mf : α × Unit → (Bool → Prop) → Prop} {g : α → Bool} (h1 : IsI R C) (Fn : FnOk X.prog X.w X.K X.mg X.base CX0 k f fd ps (spP (acons R anil) RBool mf)) (hm : ∀ x Kf, Kf (g x) → mf (x, ()) Kf) (hs : PySem.W.findIn X.K (.ref C) "__bool__" = some (some (.ref f))) (hf : PySem.W.isFn X.K (.ref f) = true) (hb : Binds X.K fd ps []) (hr : Room (k + 2) X.A) : TruT X R g :=
  ⟨_, tru_own Fn hs hf hb hr, fun x v F H Q hx e q => by
    obtain ⟨a, dx, fs, ea, ha⟩ := h1 x v F hx
    refine ⟨⟨a, ea⟩, ⟨a, dx, fs, ea, e _ _ ha⟩, (x, ()), F, fun r => r = g x, ⟨hx, trivial⟩, e, hm x _ rfl, fun r v' F' H' hr' hv z1 z2 z3 z4 => ?_⟩
    have hv : v' = .bl r := hv
    subst hv; subst hr'
    exact ⟨_, rfl, q F' H' z1 z2 z3 z4⟩⟩
theorem trut_sum {R : α → Pd} {R' : β → Pd} {g : α → Bool} {g' : β → Bool} (h : TruT X R g) (h' : TruT X R' g') : TruT X (RSum R R') (Sum.elim g g') := by
  obtain ⟨r, h1, h2⟩ := h
  obtain ⟨r', h1', h2'⟩ := h'
  refine ⟨_, tru_or h1 h1', fun x v F H Q hx e q => ?_⟩
  cases x with
  | inl x =>
    obtain ⟨z1, z2⟩ := h2 x v F H Q hx e q
    exact ⟨z1, .inl z2⟩
  | inr x =>
    obtain ⟨z1, z2⟩ := h2' x v F H Q hx e q
    exact ⟨z1, .inr z2⟩
end
section
variable {X : Cx} {S : Type} {B : Bs} {Γ : S → List Sl} {α : Type} {R : α → Pd} {a : Expr} {p pos : Pos} {ma : S → (α → S → Prop) → Prop} {g : α → Bool}
/-- bool(e) -/
theorem te_boolT (P : BP X "bool" (.type "bool")) (h : TruT X R g) (ha : PE X a (tE B Γ R ma)) (hs : starEach [a] X.env = (false, eval a X.env) :: starEach [] X.env := by rfl) (hpl : (backTo pos (starEach [] X.env)).any (·.1) = false := by rfl) :
    PE X (.Call (.Name "bool" p) [a] [] pos) (tE B Γ RBool (fun s K => ma s fun y s1 => K (g y) s1)) := by
  obtain ⟨r, h1, h2⟩ := h
  refine pe_imp (pe_bt P (call_boolC h1) (pa_cons ha pa_nil hs) hs hpl) fun σ H Q ⟨s, F, K', A, hm, k⟩ => ⟨s, F, _, A, hm, fun x s1 v F1 H1 h1' A1 e1 r1 => ?_⟩
  obtain ⟨⟨b, eb⟩, z⟩ := h2 x v F1 H1 (fun c H' => Q (.bl c) H') r1 A1.sub (fun F' H' z1 z2 z3 z4 => k _ s1 _ F' H' h1' (A1.grow z1 z2 z3 z4) (e1.trans z1) rfl)
  subst eb
  exact ⟨b, rfl, z⟩
/-- a test of such a value -/
theorem tt_truT (h : TruT X R g) (ha : PE X a (tE B Γ R ma)) (he : ∀ whole, isTrue a X.env whole = (do let v ← whole; standAt a.pos; holding [v] (truthy v)) := by intro _; rfl) : PT X a (tT B Γ (fun s K => ma s fun y s1 => K (g y) s1)) := by
  obtain ⟨r, h1, h2⟩ := h
  refine pt_imp (pt_truthR ha (tru_truR h1) he) fun σ H Q ⟨s, F, K', A, hm, k⟩ => ⟨s, F, _, A, hm, fun x s1 v F1 H1 h1' A1 e1 r1 => ?_⟩
  exact h2 x v F1 H1 Q r1 A1.sub (fun F' H' z1 z2 z3 z4 => k _ s1 F' H' h1' (A1.grow z1 z2 z3 z4) (e1.trans z1))
end
end TL
namespace TL
open PySem L2
/-! ### comprehensions whose parts change two lent things -/
/-- a slot that is owned, or lent: its address is j -/
def LendAt {S T : Type} (Γ : S → List Sl) (σ : L2.St) (i : Nat) (j : Addr) (O : T → Od) (get : S → T) (put : S → T → S) : Prop :=
  ((∀ s, (Γ s)[i]? = some (.bo j (O (get s)))) ∧ ∀ s t, Γ (put s t) = (Γ s).set i (.bo j (O t))) ∨ ((∀ s, (Γ s)[i]? = some (.ow (O (get s)))) ∧ (∀ s t, Γ (put s t) = (Γ s).set i (.ow (O t))) ∧ σ[i]? = some (some (.ref j)))
section
variable {S T T1 T2 : Type} {B : Bs} {Γ : S → List Sl} {σ : L2.St} {O : T → Od} {O1 : T1 → Od} {O2 : T2 → Od}
theorem LendAt.at {i : Nat} {j : Addr} {get : S → T} {put : S → T → S} (L : LendAt Γ σ i j O get put) {s : S} {F H : Hp} (A : At B (Γ s) σ F H) : F j = none ∧ ∃ o, σ[i]? = some (some (.ref j)) ∧ H j = some o ∧ (O (get s)).p o F := by
  rcases L with ⟨hG, hP⟩ | ⟨hG, hP, h1⟩
  · obtain ⟨o, h1, h2, h3, h4, _⟩ := A.bo (hG s)
    exact ⟨h2, o, h1, h3, h4⟩
  · obtain ⟨j', o, g1, g2, g3, g4, _⟩ := A.ow (hG s)
    rw [h1] at g1
    cases g1
    exact ⟨g2, o, h1, g3, g4⟩
theorem LendAt.back {i : Nat} {j : Addr} {get : S → T} {put : S → T → S} (L : LendAt Γ σ i j O get put) {s : S} {t : T} {F H F' H' : Hp} {o' : HO}
    (A : At B (Γ s) σ F H) (eF : Same F F') (eH : ∀ a u, a ≠ j → H a = some u → H' a = some u) (sb : Same F' H') (nw : Nw F H F') (fj : F' j = none) (hj : H' j = some o') (ho : (O t).p o' F') : At B (Γ (put s t)) σ F' H' := by
  rcases L with ⟨hG, hP⟩ | ⟨hG, hP, h1⟩
  · exact At.backB hG hP A eF eH sb nw fj hj ho
  · exact At.backO hG hP A h1 eF eH sb nw fj hj ho
theorem LendAt.own {i : Nat} {j : Addr} {get : S → T} {put : S → T → S} (L : LendAt Γ σ i j O get put) (s : S) (t t' : T) : owA (Γ (put s t)) σ = owA (Γ (put s t')) σ := by
  rcases L with ⟨hG, hP⟩ | ⟨hG, hP, h1⟩
  · rw [hP, hP, owA_set_bo (hG s), owA_set_bo (hG s)]
  · rw [hP, hP, owA_set_ow (hG s), owA_set_ow (hG s)]
theorem LendAt.own0 {i : Nat} {j : Addr} {get : S → T} {put : S → T → S} (L : LendAt Γ σ i j O get put) (s : S) (t : T) : owA (Γ (put s t)) σ = owA (Γ s) σ := by
  rcases L with ⟨hG, hP⟩ | ⟨hG, hP, h1⟩
  · rw [hP, owA_set_bo (hG s)]
  · rw [hP, owA_set_ow (hG s)]
theorem owA_boow : ∀ {Γ : List Sl} {σ : L2.St} {i : Nat} {j : Addr} {P : Od}, owA (Γ.set i (.bo j P)) σ = owA (Γ.set i (.ow P)) σ
  | [], σ, i, j, P => by simp
  | s :: Γ, [], i, j, P => by cases i <;> simp [owA]
  | s :: Γ, x :: σ, 0, j, P => by
    show ownS (.bo j P) x ++ owA Γ σ = ownS (.ow P) x ++ owA Γ σ
    cases x with
    | none => rfl
    | some v => cases v <;> rfl
  | s :: Γ, x :: σ, i + 1, j, P => by
    show ownS s x ++ owA (Γ.set i (.bo j P)) σ = ownS s x ++ owA (Γ.set i (.ow P)) σ
    rw [owA_boow]
theorem set_same {σ : L2.St} {i : Nat} {x : Option V} (h : σ[i]? = some x) : σ.set i x = σ := by
  apply List.ext_getElem?
  intro k
  by_cases e : i = k
  · subst e
    rw [List.getElem?_set_self (List.getElem?_eq_some_iff.mp h).1, h]
  · rw [List.getElem?_set_ne e]
theorem nodup_bo {Γ : List Sl} {i : Nat} {j : Addr} {P : Od} (nd : (owA Γ σ).Nodup) (n : j ∉ owA Γ σ) (h : σ[i]? = some (some (.ref j))) : (owA (Γ.set i (.bo j P)) σ).Nodup := by
  rw [owA_boow]
  have := nodup_set (i := i) (O := P) nd n
  rwa [set_same h] at this
theorem mem_bo {Γ : List Sl} {i : Nat} {j q : Addr} {P : Od} (h : σ[i]? = some (some (.ref j))) (m : q ∈ owA (Γ.set i (.bo j P)) σ) : q = j ∨ q ∈ owA Γ σ := by
  have m' : q ∈ owA (Γ.set i (.bo j P)) (σ.set i (some (.ref j))) := by rw [set_same h]; exact m
  rcases mem_owA_set m' with z | z
  · exact .inl (by simpa [ownS] using z)
  · exact .inr z
variable {α β : Type} {R : α → Pd} {Rb : β → Pd}
theorem lc_readJ2 {te : TE} {g : TG} {js vs : List Nat} {up : List Sl → α → List Sl} (tgt : Tg g R js up) {Γp : S → List Sl} {mi : S → (List α → S → Prop) → Prop} {me : S → α → T1 × T2 → (β → T1 × T2 → Prop) → Prop} {i1 i2 : Nat} {j1 j2 : Addr} {get1 : S → T1} {put1 : S → T1 → S} {get2 : S → T2} {put2 : S → T2 → S}
    (L1 : LendAt Γ σ i1 j1 O1 get1 put1) (L2 : LendAt Γ σ i2 j2 O2 get2 put2) (hne : ∀ s F H, At B (Γ s) σ F H → j1 ≠ j2)
    (hte : ∀ (z : S × α × Bs) σ H Q, tE z.2.2 (fun t : T1 × T2 => up (((Γp z.1).set i1 (.bo j1 (O1 t.1))).set i2 (.bo j2 (O2 t.2))) z.2.1) Rb (fun t K => me z.1 z.2.1 t K) σ H Q → te σ H Q)
    (gp1 : ∀ s t, get1 (put1 s t) = t) (gp2 : ∀ s t, get2 (put2 s t) = t) (g12 : ∀ s t, get2 (put1 s t) = get2 s) (g21 : ∀ s t, get1 (put2 s t) = get1 s) (pp : ∀ s t1 t2 t1' t2', put2 (put1 (put2 (put1 s t1) t2) t1') t2' = put2 (put1 s t1') t2') (pg : ∀ s, put2 (put1 s (get1 s)) (get2 s) = s)
    (hp : ∀ s, Pur (Γ s) (Γp s)) (hΓ : ∀ s t1 t2, Γp (put2 (put1 s t1) t2) = Γp s) (hj : ∀ k ∈ js, k ∈ vs) (hi1 : i1 ∉ vs) (hi2 : i2 ∉ vs) (hii : i1 ≠ i2) (hu1 : ∀ Γ x, (up Γ x)[i1]? = Γ[i1]?) (hu2 : ∀ Γ x, (up Γ x)[i2]? = Γ[i2]?) (hv : ∀ s, ∀ k ∈ vs, (Γp s)[k]? = some .any ∨ (Γp s)[k]? = none) {H : Hp} {Q : VK}
    (q : tN B Γ Rb (fun s K => mi s fun xs s1 => xs.length ≤ 1000000 ∧ mMapS xs (me s1) (get1 s1, get2 s1) fun ys t => K ys (put2 (put1 s1 t.1) t.2)) σ H Q) :
    tLc (tI B Γ R mi) g (fun σ H Q => Q true H) te vs σ H Q := by
  obtain ⟨s, F, K', A, hm, k⟩ := q
  refine ⟨s, F, _, A, hm, fun xs s1 J F1 H1 ⟨hz, h1⟩ A1 e1 src => ?_⟩
  intro D hD
  have bD := A1.beside hD
  have nj := hne _ _ _ A1
  obtain ⟨_, o1, _, hj1, _⟩ := L1.at A1
  obtain ⟨_, o2, _, hj2, _⟩ := L2.at A1
  have D1 : D ≠ j1 := fun z => by rw [← z, hD] at hj1; cases hj1
  have D2 : D ≠ j2 := fun z => by rw [← z, hD] at hj2; cases hj2
  have owE : ∀ t1 t2, owA (Γ (put2 (put1 s1 t1) t2)) σ = owA (Γ s1) σ := fun t1 t2 => by rw [L2.own0, L1.own0]
  refine ⟨fun n mm H' => ∃ Fi acc ys t, mm = xs.length - n ∧ n ≤ xs.length ∧ Same F1 Fi ∧ At B (Γ (put2 (put1 s1 t.1) t.2)) σ Fi H' ∧ H' D = some (.lst acc) ∧ Fi D = none ∧ AllR Rb ys acc Fi ∧ ys.length ≤ n ∧ mMapS (xs.drop n) (me s1) t fun zs t' => K' (ys ++ zs) (put2 (put1 s1 t'.1) t'.2), ?_, ?_⟩
  · refine ⟨xs.length, F1, [], [], (get1 s1, get2 s1), by simp, Nat.zero_le _, Same.refl _, by rw [pg]; exact A1.layH hD, upd_same, bD.1, trivial, Nat.le_refl _, ?_⟩
    simpa using h1
  · rintro n mm H' ⟨Fi, acc, ys, t, rfl, hn, eF, Ai, hDi, fDi, av, hyl, hk⟩
    obtain ⟨s1', s2', s3'⟩ := src Fi H' eF Ai.sub
    by_cases hlt : n < xs.length
    · refine .inr ⟨s2' n hlt, fun H'' => ∃ mm', mm' < xs.length - n ∧ ∃ Fi acc ys t, mm' = xs.length - (n + 1) ∧ n + 1 ≤ xs.length ∧ Same F1 Fi ∧ At B (Γ (put2 (put1 s1 t.1) t.2)) σ Fi H'' ∧ H'' D = some (.lst acc) ∧ Fi D = none ∧ AllR Rb ys acc Fi ∧ ys.length ≤ n + 1 ∧ mMapS (xs.drop (n + 1)) (me s1) t fun zs t' => K' (ys ++ zs) (put2 (put1 s1 t'.1) t'.2), fun H'' z => z, fun v H2 hy => ?_⟩
      obtain ⟨F2, f1, f2, f3, f4, f5⟩ := s3' n xs[n] v H2 (List.getElem?_eq_getElem hlt) hy
      have A2 := Ai.grow f1 f2 f3 f4
      have hD2 := f2 _ _ hDi
      have fD2 : F2 D = none := f4.no fDi hDi
      rw [List.drop_eq_getElem_cons hlt] at hk
      obtain ⟨fj1, oj1, hs1, hh1, pj1⟩ := L1.at A2
      obtain ⟨fj2, oj2, hs2, hh2, pj2⟩ := L2.at A2
      rw [g21, gp1] at pj1
      rw [gp2] at pj2
      obtain ⟨pf, po⟩ := fits_pure (F' := F2) (H' := H2) (σ' := wipe σ vs) vs (hp (put2 (put1 s1 t.1) t.2)) A2.fit (fun i hi => wipe_out hi) (wipe_length σ vs) (hv _)
      have hpp := hp (put2 (put1 s1 t.1) t.2)
      rw [hΓ] at pf po hpp
      have ws1 : (wipe σ vs)[i1]? = some (some (.ref j1)) := by rw [wipe_out hi1, hs1]
      have ws2 : (wipe σ vs)[i2]? = some (some (.ref j2)) := by rw [wipe_out hi2, hs2]
      have pf2 : Fits ⟨F2, H2, fun a => a = j1 ∨ a = j2, []⟩ F2 H2 (((Γp s1).set i1 (.bo j1 (O1 t.1))).set i2 (.bo j2 (O2 t.2))) (wipe σ vs) := by
        have pf' : Fits ⟨F2, H2, fun a => a = j1 ∨ a = j2, []⟩ F2 H2 (Γp s1) (wipe σ vs) := fits_pur_base hpp pf
        exact (pf'.reset (s := .bo j1 (O1 t.1)) ws1 ⟨oj1, rfl, fj1, hh1, pj1, .inl rfl⟩).reset (s := .bo j2 (O2 t.2)) ws2 ⟨oj2, rfl, fj2, hh2, pj2, .inr rfl⟩
      have nd1 : (owA ((Γp s1).set i1 (.bo j1 (O1 t.1))) (wipe σ vs)).Nodup := nodup_bo (by rw [po]; exact List.Pairwise.nil) (by rw [po]; simp) ws1
      have nd2 : (owA (((Γp s1).set i1 (.bo j1 (O1 t.1))).set i2 (.bo j2 (O2 t.2))) (wipe σ vs)).Nodup := nodup_bo nd1 (fun z => by
        rcases mem_bo ws1 z with e | e
        · exact nj e.symm
        · rw [po] at e; cases e) ws2
      have A3 : At ⟨F2, H2, fun a => a = j1 ∨ a = j2, []⟩ (((Γp s1).set i1 (.bo j1 (O1 t.1))).set i2 (.bo j2 (O2 t.2))) (wipe σ vs) F2 H2 := ⟨A2.sub, Same.refl _, fun a o e _ => e, fun a o e => .inl e, pf2, nd2, fun a hb => by
        have hb : a = j1 ∨ a = j2 := hb
        rcases hb with hb | hb
        · subst hb; exact ⟨fj1, ⟨_, hh1⟩, ⟨_, hh1⟩⟩
        · subst hb; exact ⟨fj2, ⟨_, hh2⟩, ⟨_, hh2⟩⟩, fun _ z => nomatch z⟩
      refine tgt.run A3 f5 fun σ' A4 hw => ?_
      refine ⟨by rw [hw vs hj, wipe_wipe fun _ z => z], ?_⟩
      refine iteT ?_
      refine hte ⟨s1, xs[n], ⟨F2, H2, fun a => a = j1 ∨ a = j2, []⟩⟩ _ _ _ ⟨t, F2, fun y t' => mMapS (xs.drop (n + 1)) (me s1) t' fun zs t'' => K' (ys ++ (y :: zs)) (put2 (put1 s1 t''.1) t''.2), A4, hk, fun y t' w F6 H6 h6 A6 e6 r6 => ?_⟩
      have hlen : i1 < (Γp s1).length ∧ i2 < (Γp s1).length := by
        have e1 := A3.len
        rw [List.length_set, List.length_set] at e1
        have e2 := (List.getElem?_eq_some_iff.mp ws1).1
        have e3 := (List.getElem?_eq_some_iff.mp ws2).1
        exact ⟨by omega, by omega⟩
      obtain ⟨o1', _, fj6, hj6, pj6, _⟩ := A6.bo (i := i1) (j := j1) (O := O1 t'.1) (by rw [hu1, List.getElem?_set_ne hii.symm, List.getElem?_set_self hlen.1])
      obtain ⟨o2', _, fj7, hj7, pj7, _⟩ := A6.bo (i := i2) (j := j2) (O := O2 t'.2) (by rw [hu2, List.getElem?_set_self (by rw [List.length_set]; exact hlen.2)])
      have kp : ∀ a u, a ≠ j1 → a ≠ j2 → H2 a = some u → H6 a = some u := fun a u n1 n2 hu' => A6.kept a u hu' (fun z => z.elim n1 n2)
      have nw : Nw F2 H2 F6 := fun a o e => A6.new a o e
      -- by way of the first thing alone
      have Am := L1.back (t := t'.1) (F' := F6) (H' := fun b => if b = j2 then some oj2 else H6 b) (o' := o1') A2 A6.ext (fun a u n1 g => by
        by_cases hb : a = j2
        · subst hb; rw [hh2] at g; cases g; exact if_pos rfl
        · show (if a = j2 then _ else _) = _
          rw [if_neg hb]; exact kp a u n1 hb g) (fun a u g => by
        by_cases hb : a = j2
        · subst hb; rw [fj7] at g; cases g
        · show (if a = j2 then _ else _) = _
          rw [if_neg hb]; exact A6.sub a u g) nw fj6 (by show (if j1 = j2 then _ else _) = _; rw [if_neg nj]; exact hj6) pj6
      have A7 := L2.back (t := t'.2) (F' := F6) (H' := H6) (o' := o2') Am (Same.refl _) (fun a u n2 g => by
        have g : (if a = j2 then some oj2 else H6 a) = some u := g
        rwa [if_neg n2] at g) A6.sub Nw.refl fj7 hj7 pj7
      have A7' : At B (Γ (put2 (put1 s1 t'.1) t'.2)) σ F6 H6 := by rw [← pp s1 t.1 t.2]; exact A7
      have hD6 := kp _ _ D1 D2 hD2
      have fD6 := nw.no fD2 hD2
      refine ⟨acc, hD6, ?_, xs.length - (n + 1), by omega, F6, acc ++ [w], ys ++ [y], t', rfl, hlt, (eF.trans f1).trans A6.ext, A7'.poke hD6 fD6 bD.2.1 (by rw [owE]; exact bD.2.2), upd_same, fD6, ?_, by rw [List.length_append, List.length_singleton]; omega, ?_⟩
      · rw [av.len]
        exact Nat.lt_of_lt_of_le (Nat.lt_of_le_of_lt hyl hlt) (smallLen hz)
      · exact ((av.mono f1).mono A6.ext).append ⟨r6, trivial⟩
      · simpa using h6
    · have e : n = xs.length := by omega
      subst e
      refine .inl ⟨s1' _ (Nat.le_refl _), ?_⟩
      rw [List.drop_length] at hk
      have hk : K' (ys ++ []) (put2 (put1 s1 t.1) t.2) := hk
      rw [List.append_nil] at hk
      exact k ys (put2 (put1 s1 t.1) t.2) D acc Fi H' hk Ai (e1.trans eF) hDi fDi bD.2.1 (by rw [owE]; exact bD.2.2) av
end
theorem mem_own : ∀ {Γ : List Sl} {σ : L2.St} {i : Nat} {s : Sl} {j : Addr}, Γ[i]? = some s → σ[i]? = some (some (.ref j)) → ownS s (some (.ref j)) = [j] → j ∈ owA Γ σ
  | [], _, i, _, _, h, _, _ => by simp at h
  | _ :: _, [], i, _, _, _, h, _ => by simp at h
  | s :: Γ, x :: σ, 0, _, j, h, h', e => by
    simp at h h'
    subst h; subst h'
    show j ∈ ownS s (some (.ref j)) ++ owA Γ σ
    rw [e]; simp
  | s :: Γ, x :: σ, i + 1, _, j, h, h', e => by
    show j ∈ ownS s x ++ owA Γ σ
    exact List.mem_append_right _ (mem_own (by simpa using h) (by simpa using h') e)
theorem own_two : ∀ {Γ : List Sl} {σ : L2.St} {i1 i2 : Nat} {s1 s2 : Sl} {j1 j2 : Addr}, Γ[i1]? = some s1 → Γ[i2]? = some s2 → σ[i1]? = some (some (.ref j1)) → σ[i2]? = some (some (.ref j2)) → ownS s1 (some (.ref j1)) = [j1] → ownS s2 (some (.ref j2)) = [j2] → i1 ≠ i2 → (owA Γ σ).Nodup → j1 ≠ j2
  | [], _, _, _, _, _, _, _, h, _, _, _, _, _, _, _ => by simp at h
  | _ :: _, [], _, _, _, _, _, _, _, _, h, _, _, _, _, _ => by simp at h
  | s :: Γ, x :: σ, 0, 0, _, _, _, _, _, _, _, _, _, _, n, _ => absurd rfl n
  | s :: Γ, x :: σ, 0, i + 1, _, _, j1, j2, h1, h2, g1, g2, e1, e2, _, nd => by
    simp at h1 g1
    subst h1; subst g1
    have nd : (ownS s (some (.ref j1)) ++ owA Γ σ).Nodup := nd
    rw [e1] at nd
    have m := mem_own (by simpa using h2) (by simpa using g2) e2
    intro z
    subst z
    rw [List.singleton_append, List.nodup_cons] at nd
    exact nd.1 m
  | s :: Γ, x :: σ, i + 1, 0, _, _, j1, j2, h1, h2, g1, g2, e1, e2, _, nd => by
    simp at h2 g2
    subst h2; subst g2
    have nd : (ownS s (some (.ref j2)) ++ owA Γ σ).Nodup := nd
    rw [e2] at nd
    have m := mem_own (by simpa using h1) (by simpa using g1) e1
    intro z
    subst z
    rw [List.singleton_append, List.nodup_cons] at nd
    exact nd.1 m
  | s :: Γ, x :: σ, i + 1, k + 1, _, _, j1, j2, h1, h2, g1, g2, e1, e2, n, nd => by
    have nd : (ownS s x ++ owA Γ σ).Nodup := nd
    exact own_two (i1 := i) (i2 := k) (by simpa using h1) (by simpa using h2) (by simpa using g1) (by simpa using g2) e1 e2 (fun z => n (by rw [z])) (List.nodup_append.mp nd).2.1
theorem LendAt.ne {S T1 T2 : Type} {B : Bs} {Γ : S → List Sl} {σ : L2.St} {O1 : T1 → Od} {O2 : T2 → Od} {i1 i2 : Nat} {j1 j2 : Addr} {get1 : S → T1} {put1 : S → T1 → S} {get2 : S → T2} {put2 : S → T2 → S} (L1 : LendAt Γ σ i1 j1 O1 get1 put1) (L2 : LendAt Γ σ i2 j2 O2 get2 put2) (n : i1 ≠ i2) (s : S) (F H : Hp) (A : At B (Γ s) σ F H) : j1 ≠ j2 := by
  obtain ⟨_, _, h1, _⟩ := L1.at A
  obtain ⟨_, _, h2, _⟩ := L2.at A
  have g1 : ∃ s1, (Γ s)[i1]? = some s1 ∧ ownS s1 (some (.ref j1)) = [j1] := by
    rcases L1 with ⟨g, _⟩ | ⟨g, _⟩
    · exact ⟨_, g s, rfl⟩
    · exact ⟨_, g s, rfl⟩
  have g2 : ∃ s1, (Γ s)[i2]? = some s1 ∧ ownS s1 (some (.ref j2)) = [j2] := by
    rcases L2 with ⟨g, _⟩ | ⟨g, _⟩
    · exact ⟨_, g s, rfl⟩
    · exact ⟨_, g s, rfl⟩
  obtain ⟨s1, a1, b1⟩ := g1
  obtain ⟨s2, a2, b2⟩ := g2
  exact own_two a1 a2 h1 h2 b1 b2 n A.dis
section
variable {X : Cx} {S T1 T2 : Type} {B : Bs} {Γ : S → List Sl} {O1 : T1 → Od} {O2 : T2 → Od} {α β : Type} {R : α → Pd} {Rb : β → Pd} {tg it elt : Expr} {pos spos py : Pos} {y : Str} {scope : Scope} {own : List (Str × Nat)} {g : TG} {js : List Nat} {up : List Sl → α → List Sl}
theorem tn_mapBO {mi : S → (List α → S → Prop) → Prop} {me : S → α → T1 × T2 → (β → T1 × T2 → Prop) → Prop} (i1 i2 : Nat) {j : Addr} (get1 : S → T1) (put1 : S → T1 → S) (get2 : S → T2) (put2 : S → T2 → S) (nd : X.N.Nodup) (hi : PI X tg it (tI B Γ R mi)) (ok : BlkOk X.N X.env.scope scope own)
    (hg : ∀ (s : Shared) (H : Hp) (C : Addr) (cl : List (Str × Addr)) (fp : List Addr), PG (X.blk s H scope (compEnvC scope cl C X.env) fp) tg g) (tgt : Tg g R js up)
    (he : ∀ (s1 : S) (x : α) (B' : Bs) (j1 j2 : Addr) (s : Shared) (H : Hp) (C : Addr) (cl : List (Str × Addr)) (fp : List Addr), PE (X.blk s H scope (compEnvC scope cl C X.env) fp) elt (tE B' (fun t : T1 × T2 => up (((pureFrom (own.map (·.2)) 0 (Γ s1)).set i1 (.bo j1 (O1 t.1))).set i2 (.bo j2 (O2 t.2))) x) Rb (me s1 x)))
    (hG1 : ∀ s, (Γ s)[i1]? = some (.bo j (O1 (get1 s))) := by intro _; rfl) (hP1 : ∀ s t, Γ (put1 s t) = (Γ s).set i1 (.bo j (O1 t)) := by intro _ _; rfl) (hG2 : ∀ s, (Γ s)[i2]? = some (.ow (O2 (get2 s))) := by intro _; rfl) (hP2 : ∀ s t, Γ (put2 s t) = (Γ s).set i2 (.ow (O2 t)) := by intro _ _; rfl)
    (hΓ : ∀ s t1 t2, pureFrom (own.map (·.2)) 0 (Γ (put2 (put1 s t1) t2)) = pureFrom (own.map (·.2)) 0 (Γ s) := by intro _ _ _; rfl)
    (gp1 : ∀ s t, get1 (put1 s t) = t := by intro _ _; rfl) (gp2 : ∀ s t, get2 (put2 s t) = t := by intro _ _; rfl) (g12 : ∀ s t, get2 (put1 s t) = get2 s := by intro _ _; rfl) (g21 : ∀ s t, get1 (put2 s t) = get1 s := by intro _ _; rfl)
    (pp : ∀ s t1 t2 t1' t2', put2 (put1 (put2 (put1 s t1) t2) t1') t2' = put2 (put1 s t1') t2' := by intro _ _ _ _ _; rfl) (pg : ∀ s, put2 (put1 s (get1 s)) (get2 s) = s := by intro _; rfl)
    (hu1 : ∀ Γ x, (up Γ x)[i1]? = Γ[i1]? := by intro _ _; exact List.getElem?_set_ne (by decide)) (hu2 : ∀ Γ x, (up Γ x)[i2]? = Γ[i2]? := by intro _ _; exact List.getElem?_set_ne (by decide)) (hi1 : i1 ∉ own.map (·.2) := by decide) (hi2 : i2 ∉ own.map (·.2) := by decide) (hii : i1 ≠ i2 := by decide)
    (hj : ∀ j ∈ js, j ∈ own.map (·.2) := by decide) (hc : X.calm = true := by rfl) (hs : ∀ x, foldedSetIterable it X.env x = pure x := by intro _; rfl) :
    PE X (.ListComp elt [⟨tg, it, [], 0⟩] scope pos) (tN B Γ Rb (fun s K => mi s fun xs s1 => xs.length ≤ 1000000 ∧ mMapS xs (me s1) (get1 s1, get2 s1) fun ys t => K ys (put2 (put1 s1 t.1) t.2))) :=
  pe_imp (pe_lc hc nd hi ok hg (fun _ _ _ _ _ => pts_go) (fun s H C cl fp => pe_ex fun z : Addr × S × α × Bs => he z.2.1 z.2.2.1 z.2.2.2 j z.1 s H C cl fp) hs)
    fun σ H Q q => by
      obtain ⟨s0, F0, K0, A0, hm0, k0⟩ := id q
      have L1 : LendAt Γ σ i1 j O1 get1 put1 := .inl ⟨hG1, hP1⟩
      obtain ⟨j2, o2, h2, _⟩ := A0.ow (hG2 s0)
      have L2' : LendAt Γ σ i2 j2 O2 get2 put2 := .inr ⟨hG2, hP2, h2⟩
      exact lc_readJ2 (i1 := i1) (i2 := i2) (me := me) (Γp := fun s => pureFrom (own.map (·.2)) 0 (Γ s)) tgt L1 L2' (fun s F H A => L1.ne L2' hii s F H A) (fun z _ _ _ h => ⟨(j2, z), h⟩) gp1 gp2 g12 g21 pp pg (fun s => pur_pure _ 0 _) hΓ hj hi1 hi2 hii hu1 hu2 (fun s k hk => pure_any _ 0 _ k (by simpa using hk)) q
theorem ps_mapBO {mi : S → (List α → S → Prop) → Prop} {me : S → α → T1 × T2 → (β → T1 × T2 → Prop) → Prop} {l : Nat} (i1 i2 : Nat) {j : Addr} (get1 : S → T1) (put1 : S → T1 → S) (get2 : S → T2) (put2 : S → T2 → S) (nd : X.N.Nodup) (hi : PI X tg it (tI B Γ R mi)) (ok : BlkOk X.N X.env.scope scope own)
    (hg : ∀ (s : Shared) (H : Hp) (C : Addr) (cl : List (Str × Addr)) (fp : List Addr), PG (X.blk s H scope (compEnvC scope cl C X.env) fp) tg g) (tgt : Tg g R js up)
    (he : ∀ (s1 : S) (x : α) (B' : Bs) (j1 j2 : Addr) (s : Shared) (H : Hp) (C : Addr) (cl : List (Str × Addr)) (fp : List Addr), PE (X.blk s H scope (compEnvC scope cl C X.env) fp) elt (tE B' (fun t : T1 × T2 => up (((pureFrom (own.map (·.2)) 0 (Γ s1)).set i1 (.bo j1 (O1 t.1))).set i2 (.bo j2 (O2 t.2))) x) Rb (me s1 x)))
    (hG1 : ∀ s, (Γ s)[i1]? = some (.bo j (O1 (get1 s))) := by intro _; rfl) (hP1 : ∀ s t, Γ (put1 s t) = (Γ s).set i1 (.bo j (O1 t)) := by intro _ _; rfl) (hG2 : ∀ s, (Γ s)[i2]? = some (.ow (O2 (get2 s))) := by intro _; rfl) (hP2 : ∀ s t, Γ (put2 s t) = (Γ s).set i2 (.ow (O2 t)) := by intro _ _; rfl)
    (hΓ : ∀ s t1 t2, pureFrom (own.map (·.2)) 0 (Γ (put2 (put1 s t1) t2)) = pureFrom (own.map (·.2)) 0 (Γ s) := by intro _ _ _; rfl)
    (gp1 : ∀ s t, get1 (put1 s t) = t := by intro _ _; rfl) (gp2 : ∀ s t, get2 (put2 s t) = t := by intro _ _; rfl) (g12 : ∀ s t, get2 (put1 s t) = get2 s := by intro _ _; rfl) (g21 : ∀ s t, get1 (put2 s t) = get1 s := by intro _ _; rfl)
    (pp : ∀ s t1 t2 t1' t2', put2 (put1 (put2 (put1 s t1) t2) t1') t2' = put2 (put1 s t1') t2' := by intro _ _ _ _ _; rfl) (pg : ∀ s, put2 (put1 s (get1 s)) (get2 s) = s := by intro _; rfl)
    (hu1 : ∀ Γ x, (up Γ x)[i1]? = Γ[i1]? := by intro _ _; exact List.getElem?_set_ne (by decide)) (hu2 : ∀ Γ x, (up Γ x)[i2]? = Γ[i2]? := by intro _ _; exact List.getElem?_set_ne (by decide)) (hi1 : i1 ∉ own.map (·.2) := by decide) (hi2 : i2 ∉ own.map (·.2) := by decide) (hii : i1 ≠ i2 := by decide)
    (hsw : swapsWith (.ListComp elt [⟨tg, it, [], 0⟩] scope pos) (some (.Name y py)) spos.line X.env = pure true := by exact sw_true rfl rfl rfl (by decide +kernel)) (hy : X.N[l]? = some y := by rfl) (hyl : X.env.scope.names.lookup y = some .local := by rfl)
    (hj : ∀ j ∈ js, j ∈ own.map (·.2) := by decide) (hc : X.calm = true := by rfl) (hs : ∀ x, foldedSetIterable it X.env x = pure x := by intro _; rfl) :
    PS X (.Assign [.Name y py] (.ListComp elt [⟨tg, it, [], 0⟩] scope pos) spos) (tAsg (tE B Γ (RLst Rb) (fun s K => mi s fun xs s1 => xs.length ≤ 1000000 ∧ mMapS xs (me s1) (get1 s1, get2 s1) fun ys t => K ys (put2 (put1 s1 t.1) t.2))) (gName l)) :=
  ps_imp (ps_setLc hc nd hy hyl hsw hi ok hg (fun _ _ _ _ _ => pts_go) (fun s H C cl fp => pe_ex fun z : Addr × S × α × Bs => he z.2.1 z.2.2.1 z.2.2.2 j z.1 s H C cl fp) hs)
    fun D σ H q => by
      obtain ⟨s0, F0, K0, A0, hm0, k0⟩ := id q
      have L1 : LendAt Γ σ i1 j O1 get1 put1 := .inl ⟨hG1, hP1⟩
      obtain ⟨j2, o2, h2, _⟩ := A0.ow (hG2 s0)
      have L2' : LendAt Γ σ i2 j2 O2 get2 put2 := .inr ⟨hG2, hP2, h2⟩
      exact lc_readJ2 (i1 := i1) (i2 := i2) (me := me) (Γp := fun s => pureFrom (own.map (·.2)) 0 (Γ s)) tgt L1 L2' (fun s F H A => L1.ne L2' hii s F H A) (fun z _ _ _ h => ⟨(j2, z), h⟩) gp1 gp2 g12 g21 pp pg (fun s => pur_pure _ 0 _) hΓ hj hi1 hi2 hii hu1 hu2 (fun s k hk => pure_any _ 0 _ k (by simpa using hk)) (tn_e q)
theorem tn_mapOO {mi : S → (List α → S → Prop) → Prop} {me : S → α → T1 × T2 → (β → T1 × T2 → Prop) → Prop} (i1 i2 : Nat) (get1 : S → T1) (put1 : S → T1 → S) (get2 : S → T2) (put2 : S → T2 → S) (nd : X.N.Nodup) (hi : PI X tg it (tI B Γ R mi)) (ok : BlkOk X.N X.env.scope scope own)
    (hg : ∀ (s : Shared) (H : Hp) (C : Addr) (cl : List (Str × Addr)) (fp : List Addr), PG (X.blk s H scope (compEnvC scope cl C X.env) fp) tg g) (tgt : Tg g R js up)
    (he : ∀ (s1 : S) (x : α) (B' : Bs) (j1 j2 : Addr) (s : Shared) (H : Hp) (C : Addr) (cl : List (Str × Addr)) (fp : List Addr), PE (X.blk s H scope (compEnvC scope cl C X.env) fp) elt (tE B' (fun t : T1 × T2 => up (((pureFrom (own.map (·.2)) 0 (Γ s1)).set i1 (.bo j1 (O1 t.1))).set i2 (.bo j2 (O2 t.2))) x) Rb (me s1 x)))
    (hG1 : ∀ s, (Γ s)[i1]? = some (.ow (O1 (get1 s))) := by intro _; rfl) (hP1 : ∀ s t, Γ (put1 s t) = (Γ s).set i1 (.ow (O1 t)) := by intro _ _; rfl) (hG2 : ∀ s, (Γ s)[i2]? = some (.ow (O2 (get2 s))) := by intro _; rfl) (hP2 : ∀ s t, Γ (put2 s t) = (Γ s).set i2 (.ow (O2 t)) := by intro _ _; rfl)
    (hΓ : ∀ s t1 t2, pureFrom (own.map (·.2)) 0 (Γ (put2 (put1 s t1) t2)) = pureFrom (own.map (·.2)) 0 (Γ s) := by intro _ _ _; rfl)
    (gp1 : ∀ s t, get1 (put1 s t) = t := by intro _ _; rfl) (gp2 : ∀ s t, get2 (put2 s t) = t := by intro _ _; rfl) (g12 : ∀ s t, get2 (put1 s t) = get2 s := by intro _ _; rfl) (g21 : ∀ s t, get1 (put2 s t) = get1 s := by intro _ _; rfl)
    (pp : ∀ s t1 t2 t1' t2', put2 (put1 (put2 (put1 s t1) t2) t1') t2' = put2 (put1 s t1') t2' := by intro _ _ _ _ _; rfl) (pg : ∀ s, put2 (put1 s (get1 s)) (get2 s) = s := by intro _; rfl)
    (hu1 : ∀ Γ x, (up Γ x)[i1]? = Γ[i1]? := by intro _ _; exact List.getElem?_set_ne (by decide)) (hu2 : ∀ Γ x, (up Γ x)[i2]? = Γ[i2]? := by intro _ _; exact List.getElem?_set_ne (by decide)) (hi1 : i1 ∉ own.map (·.2) := by decide) (hi2 : i2 ∉ own.map (·.2) := by decide) (hii : i1 ≠ i2 := by decide)
    (hj : ∀ j ∈ js, j ∈ own.map (·.2) := by decide) (hc : X.calm = true := by rfl) (hs : ∀ x, foldedSetIterable it X.env x = pure x := by intro _; rfl) :
    PE X (.ListComp elt [⟨tg, it, [], 0⟩] scope pos) (tN B Γ Rb (fun s K => mi s fun xs s1 => xs.length ≤ 1000000 ∧ mMapS xs (me s1) (get1 s1, get2 s1) fun ys t => K ys (put2 (put1 s1 t.1) t.2))) :=
  pe_imp (pe_lc hc nd hi ok hg (fun _ _ _ _ _ => pts_go) (fun s H C cl fp => pe_ex fun z : (Addr × Addr) × S × α × Bs => he z.2.1 z.2.2.1 z.2.2.2 z.1.1 z.1.2 s H C cl fp) hs)
    fun σ H Q q => by
      obtain ⟨s0, F0, K0, A0, hm0, k0⟩ := id q
      obtain ⟨j1, o1, h1, _⟩ := A0.ow (hG1 s0)
      have L1 : LendAt Γ σ i1 j1 O1 get1 put1 := .inr ⟨hG1, hP1, h1⟩
      obtain ⟨j2, o2, h2, _⟩ := A0.ow (hG2 s0)
      have L2' : LendAt Γ σ i2 j2 O2 get2 put2 := .inr ⟨hG2, hP2, h2⟩
      exact lc_readJ2 (i1 := i1) (i2 := i2) (me := me) (Γp := fun s => pureFrom (own.map (·.2)) 0 (Γ s)) tgt L1 L2' (fun s F H A => L1.ne L2' hii s F H A) (fun z _ _ _ h => ⟨((j1, j2), z), h⟩) gp1 gp2 g12 g21 pp pg (fun s => pur_pure _ 0 _) hΓ hj hi1 hi2 hii hu1 hu2 (fun s k hk => pure_any _ 0 _ k (by simpa using hk)) q
theorem ps_mapOO {mi : S → (List α → S → Prop) → Prop} {me : S → α → T1 × T2 → (β → T1 × T2 → Prop) → Prop} {l : Nat} (i1 i2 : Nat) (get1 : S → T1) (put1 : S → T1 → S) (get2 : S → T2) (put2 : S → T2 → S) (nd : X.N.Nodup) (hi : PI X tg it (tI B Γ R mi)) (ok : BlkOk X.N X.env.scope scope own)
    (hg : ∀ (s : Shared) (H : Hp) (C : Addr) (cl : List (Str × Addr)) (fp : List Addr), PG (X.blk s H scope (compEnvC scope cl C X.env) fp) tg g) (tgt : Tg g R js up)
    (he : ∀ (s1 : S) (x : α) (B' : Bs) (j1 j2 : Addr) (s : Shared) (H : Hp) (C : Addr) (cl : List (Str × Addr)) (fp : List Addr), PE (X.blk s H scope (compEnvC scope cl C X.env) fp) elt (tE B' (fun t : T1 × T2 => up (((pureFrom (own.map (·.2)) 0 (Γ s1)).set i1 (.bo j1 (O1 t.1))).set i2 (.bo j2 (O2 t.2))) x) Rb (me s1 x)))
    (hG1 : ∀ s, (Γ s)[i1]? = some (.ow (O1 (get1 s))) := by intro _; rfl) (hP1 : ∀ s t, Γ (put1 s t) = (Γ s).set i1 (.ow (O1 t)) := by intro _ _; rfl) (hG2 : ∀ s, (Γ s)[i2]? = some (.ow (O2 (get2 s))) := by intro _; rfl) (hP2 : ∀ s t, Γ (put2 s t) = (Γ s).set i2 (.ow (O2 t)) := by intro _ _; rfl)
    (hΓ : ∀ s t1 t2, pureFrom (own.map (·.2)) 0 (Γ (put2 (put1 s t1) t2)) = pureFrom (own.map (·.2)) 0 (Γ s) := by intro _ _ _; rfl)
    (gp1 : ∀ s t, get1 (put1 s t) = t := by intro _ _; rfl) (gp2 : ∀ s t, get2 (put2 s t) = t := by intro _ _; rfl) (g12 : ∀ s t, get2 (put1 s t) = get2 s := by intro _ _; rfl) (g21 : ∀ s t, get1 (put2 s t) = get1 s := by intro _ _; rfl)
    (pp : ∀ s t1 t2 t1' t2', put2 (put1 (put2 (put1 s t1) t2) t1') t2' = put2 (put1 s t1') t2' := by intro _ _ _ _ _; rfl) (pg : ∀ s, put2 (put1 s (get1 s)) (get2 s) = s := by intro _; rfl)
    (hu1 : ∀ Γ x, (up Γ x)[i1]? = Γ[i1]? := by intro _ _; exact List.getElem?_set_ne (by decide)) (hu2 : ∀ Γ x, (up Γ x)[i2]? = Γ[i2]? := by intro _ _; exact List.getElem?_set_ne (by decide)) (hi1 : i1 ∉ own.map (·.2) := by decide) (hi2 : i2 ∉ own.map (·.2) := by decide) (hii : i1 ≠ i2 := by decide)
    (hsw : swapsWith (.ListComp elt [⟨tg, it, [], 0⟩] scope pos) (some (.Name y py)) spos.line X.env = pure true := by exact sw_true rfl rfl rfl (by decide +kernel)) (hy : X.N[l]? = some y := by rfl) (hyl : X.env.scope.names.lookup y = some .local := by rfl)
    (hj : ∀ j ∈ js, j ∈ own.map (·.2) := by decide) (hc : X.calm = true := by rfl) (hs : ∀ x, foldedSetIterable it X.env x = pure x := by intro _; rfl) :
    PS X (.Assign [.Name y py] (.ListComp elt [⟨tg, it, [], 0⟩] scope pos) spos) (tAsg (tE B Γ (RLst Rb) (fun s K => mi s fun xs s1 => xs.length ≤ 1000000 ∧ mMapS xs (me s1) (get1 s1, get2 s1) fun ys t => K ys (put2 (put1 s1 t.1) t.2))) (gName l)) :=
  ps_imp (ps_setLc hc nd hy hyl hsw hi ok hg (fun _ _ _ _ _ => pts_go) (fun s H C cl fp => pe_ex fun z : (Addr × Addr) × S × α × Bs => he z.2.1 z.2.2.1 z.2.2.2 z.1.1 z.1.2 s H C cl fp) hs)
    fun D σ H q => by
      obtain ⟨s0, F0, K0, A0, hm0, k0⟩ := id q
      obtain ⟨j1, o1, h1, _⟩ := A0.ow (hG1 s0)
      have L1 : LendAt Γ σ i1 j1 O1 get1 put1 := .inr ⟨hG1, hP1, h1⟩
      obtain ⟨j2, o2, h2, _⟩ := A0.ow (hG2 s0)
      have L2' : LendAt Γ σ i2 j2 O2 get2 put2 := .inr ⟨hG2, hP2, h2⟩
      exact lc_readJ2 (i1 := i1) (i2 := i2) (me := me) (Γp := fun s => pureFrom (own.map (·.2)) 0 (Γ s)) tgt L1 L2' (fun s F H A => L1.ne L2' hii s F H A) (fun z _ _ _ h => ⟨((j1, j2), z), h⟩) gp1 gp2 g12 g21 pp pg (fun s => pur_pure _ 0 _) hΓ hj hi1 hi2 hii hu1 hu2 (fun s k hk => pure_any _ 0 _ k (by simpa using hk)) (tn_e q)
end
/-! ### lent lists -/
section
variable {X : Cx} {S : Type} {B : Bs} {Γ : S → List Sl} {α : Type} {R : α → Pd} {b : Expr} {xn : Str} {pn p pos cpos apos : Pos} {jA : Addr}
theorem te_popAtB (i : Nat) (get : S → List α) (put : S → List α → S) {mb : S → (Int → S → Prop) → Prop} (he : PE X b (tE B Γ RInt mb)) (hG : ∀ s, (Γ s)[i]? = some (.bo jA (OList R (get s))) := by intro _; rfl) (hP : ∀ s t, Γ (put s t) = (Γ s).set i (.bo jA (OList R t)) := by intro _ _; rfl)
    (hN : X.N[i]? = some xn := by rfl) (hv : Vis X.env.scope xn := by first | exact Or.inl rfl | exact Or.inr (Or.inl rfl) | exact Or.inr (Or.inr rfl)) (hd : (xn == ("__debug__" : Str)) = false := by decide) (hcd : (xn == ("__classdict__" : Str)) = false := by decide)
    (hs : starEach [b] X.env = (false, eval b X.env) :: starEach [] X.env := by rfl) (hpl : (backTo cpos (starEach [] X.env)).any (·.1) = false := by rfl)
    (hbase : attributeBase (.Name xn pn) "pop" X.env (eval (.Name xn pn) X.env) = eval (.Name xn pn) X.env := by rfl) (hline : (apos.endLine == cpos.line) = true := by rfl) (hfew : FewArgs X cpos [b] := by rfl) :
    PE X (.Call (.Attribute (.Name xn pn) "pop" apos) [b] [] cpos) (tE B Γ R (fun s K => mb s fun j s1 => ∃ y, (0 ≤ j ∧ j < ((get s1).length : Int) ∧ j ≤ 1000000 ∧ (get s1)[j.toNat]? = some y) ∧ K y (put s1 ((get s1).eraseIdx j.toNat)))) :=
  pe_imp (pe_bm PySem.F.plainAttrs_list PySem.F.slot_list_pop PySem.F.type_list_pop mt_popAt (pe_var hN hv hd hcd) (pa_cons he pa_nil hs) hbase hfew hline hs hpl) fun σ H Q ⟨s, F, K', A, hm, k⟩ => by
    obtain ⟨o, h1, h2, h3, ⟨vs, h4, h5⟩, h6⟩ := A.bo (hG s)
    subst h4
    refine ⟨_, h1, .inl ⟨rfl, vs, SqL.of h3⟩, s, F, _, A, hm, fun j s1 v F1 H1 ⟨y, ⟨j0, j1, j2, hy⟩, k1⟩ A1 e1 r1 => ?_⟩
    obtain ⟨o', g1, g2, g3, ⟨vs', g4, g5⟩, g6⟩ := A1.bo (hG s1)
    subst g4
    obtain ⟨v', hv', rv'⟩ := g5.get hy
    have hi : ixN vs'.length j = some j.toNat := by
      unfold ixN
      rw [g5.len, if_pos j0, if_pos j1]
    refine ⟨jA, vs', j, j.toNat, v', rfl, by rw [show v = V.int j from r1], g3, by omega, by omega, (ixN_seq hi).1, hv', k y (put s1 ((get s1).eraseIdx j.toNat)) v' F1 _ k1 ?_ e1 rv'⟩
    rw [hP]
    exact A1.writeB (hG s1) ⟨_, rfl, g5.erase _⟩
theorem te_ownLenB (i : Nat) (get : S → List α) (Pl : BP X "len" (.builtin "len")) (hG : ∀ s, (Γ s)[i]? = some (.bo jA (OList R (get s))) := by intro _; rfl) (hN : X.N[i]? = some xn := by rfl) (hv : Vis X.env.scope xn := by first | exact Or.inl rfl | exact Or.inr (Or.inl rfl) | exact Or.inr (Or.inr rfl)) (hd : (xn == ("__debug__" : Str)) = false := by decide) (hcd : (xn == ("__classdict__" : Str)) = false := by decide)
    (hs : starEach [.Name xn pn] X.env = (false, eval (.Name xn pn) X.env) :: starEach [] X.env := by rfl) (hpl : (backTo pos (starEach [] X.env)).any (·.1) = false := by rfl) :
    PE X (.Call (.Name "len" p) [.Name xn pn] [] pos) (tE B Γ RInt (fun s K => K ((get s).length : Int) s)) :=
  pe_imp (pe_bf Pl call_len_seq (pa_cons (pe_var hN hv hd hcd) pa_nil hs) hs hpl) fun σ H Q ⟨s, F, K', A, hm, k⟩ => by
    obtain ⟨o, h1, h2, h3, ⟨vs, h4, h5⟩, h6⟩ := A.bo (hG s)
    subst h4
    exact ⟨_, h1, jA, vs, rfl, .inl (SqL.of h3), by rw [h5.len]; exact k _ s _ F H hm A (Same.refl _) rfl⟩
end
end TL
namespace TL
open PySem L2
open PySem.MeetsSeq PySem.MeetsSeq2 PySem.SeqRoads2
/-! ### x in [a, b, ..] by the text's own __eq__ -/
section
variable {prog : Program} {w : World}
theorem contains_loopI (A0 : Around) (l : Addr) (x : Value) (items : Array Value) (e : Nat → Bool) (I : Shared → Prop) (hl : ∀ s, I s → s.heap.IsList l items)
    (k : Nat) : ∀ i : Nat, items.size - i = k → MeetsIn prog w (Builtin.«list.__contains__.loop» ⟨[.ref l, x, rawInt i], []⟩)
      (fun A R s => A = A0 ∧ I s ∧ (∀ j, j < i → e j = false) ∧ (∀ s', I s' → R (.ok (.ret (.bool true))) s' ∧ R (.ok (.ret (.bool ((List.range items.size).any e)))) s') ∧
        ∀ j (h : j < items.size) s', I s' → wpAny (model prog w) A.in1 (eqBool items[j] x) (fun r s2 => (r = true ∨ r = e j) ∧ I s2) (fun ev s2 => R (.error ev) s2) s') := by
  induction k with
  | zero =>
    intro i hk A R s ⟨eA, h, hf, hR, turn⟩
    obtain ⟨⟨cls, dd, data, sl⟩, ho, hc, n, hd⟩ := id (hl s h)
    simp only at hc hd
    subst hc hd
    obtain ⟨hp, g, d, tk, os⟩ := s
    wp_walk using AutoSeq1.wpAny_loadPart' ho
    have hi : items[((i : Nat) : Int).toNat]? = none := by simp; omega
    rw [hi]
    wp_walk
    have : (List.range items.size).any e = false := by
      rw [List.any_eq_false]
      intro j hj
      rw [List.mem_range] at hj
      simp [hf j (by omega)]
    have q := (hR _ h).2
    rw [this] at q
    exact q
  | succ k ih =>
    intro i hk A R s ⟨eA, h, hf, hR, turn⟩
    obtain ⟨⟨cls, dd, data, sl⟩, ho, hc, n, hd⟩ := id (hl s h)
    simp only at hc hd
    subst hc hd
    have hlt : i < items.size := by omega
    have ht := turn i hlt s h
    obtain ⟨hp, g, d, tk, os⟩ := s
    wp_walk using AutoSeq1.wpAny_loadPart' ho
    have hi : items[((i : Nat) : Int).toNat]? = some items[i] := by simp [hlt]
    rw [hi]
    refine wpAny_bind (wpAny_mono ht (fun r s2 ⟨hr, h2⟩ => ?_) fun _ _ z => z)
    cases r with
    | true =>
      wp_walk
      exact (hR _ h2).1
    | false =>
      have he : e i = false := by
        rcases hr with z | z
        · cases z
        · exact z.symm
      have hc : ((i : Int) + 1) = ((i + 1 : Nat) : Int) := by push_cast; rfl
      obtain ⟨hp2, g2, d2, tk2, os2⟩ := s2
      wp_walk
      rw [hc]
      exact ⟨plainId_quiet plain_contains_loop _, codeAny_builtin entry_contains_loop (by
        rw [Around.under_plainId plain_contains_loop _]
        exact ih (i + 1) (by omega) A R _ ⟨eA, h2, fun j hj => by
          by_cases hji : j = i
          · rw [hji]; exact he
          · exact hf j (by omega), hR, turn⟩)⟩
theorem list_containsI (A0 : Around) (l : Addr) (x : Value) (items : Array Value) (e : Nat → Bool) (I : Shared → Prop) (hl : ∀ s, I s → s.heap.IsList l items) :
    MeetsIn prog w (Builtin.«list.__contains__» ⟨[.ref l, x], []⟩)
      (fun A R s => A = A0 ∧ I s ∧ (∀ s', I s' → R (.ok (.ret (.bool true))) s' ∧ R (.ok (.ret (.bool ((List.range items.size).any e)))) s') ∧
        ∀ j (h : j < items.size) s', I s' → wpAny (model prog w) A.in1 (eqBool items[j] x) (fun r s2 => (r = true ∨ r = e j) ∧ I s2) (fun ev s2 => R (.error ev) s2) s') := by
  intro A R s ⟨eA, h, hR, turn⟩
  obtain ⟨⟨cls, dd, data, sl⟩, ho, hc, n, hd⟩ := id (hl s h)
  simp only at hc hd
  subst hc hd
  obtain ⟨hp, g, d, tk, os⟩ := s
  wp_walk using AutoSeq1.wpAny_loadPart' ho
  exact ⟨plainId_quiet plain_contains_loop _, codeAny_builtin entry_contains_loop (by
    rw [Around.under_plainId plain_contains_loop _]
    exact contains_loopI A0 l x items e I hl _ 0 rfl A R _ ⟨eA, h, fun j hj => absurd hj (Nat.not_lt_zero _), hR, turn⟩)⟩
variable {A : Around} {E : Value → Shared → Prop} {s : Shared}
theorem in_listI {l : Addr} {x : Value} {items : Array Value} {e : Nat → Bool} {I : Shared → Prop} {Q : Value → Shared → Prop} (hl : ∀ s, I s → s.heap.IsList l items) (h : I s)
    (hQ : ∀ s', I s' → Q (.bool true) s' ∧ Q (.bool ((List.range items.size).any e)) s')
    (turn : ∀ j (h : j < items.size) s', I s' → wpAny (model prog w) A.in1 (eqBool items[j] x) (fun r s2 => (r = true ∨ r = e j) ∧ I s2) E s') : wpAny (model prog w) A (compareOp .In x (.ref l)) Q E s := by
  obtain ⟨⟨cls, dd, data, sl⟩, ho, hc, n, hd⟩ := id (hl s h)
  simp only at hc hd
  subst hc hd
  have hT : s.TypeIs (.ref l) "list" := ⟨_, ho, rfl⟩
  show wpAny _ A (do return .bool (← contains (.ref l) x)) Q E s
  refine wpAny_bind (wpAny_contains_slot hT PySem.F.slot_list_contains (wpAny_mono (call_meetsIn (Q := fun v s' => ∃ b, v = .bool b ∧ Q (.bool b) s') PySem.F.slot_list_contains hT PySem.F.entry_list_contains (PySem.F.args_list_contains_2 _ _) (list_containsI A l x items e I hl) ⟨rfl, h, fun s' h' => ⟨⟨_, rfl, (hQ s' h').1⟩, ⟨_, rfl, (hQ s' h').2⟩⟩, turn⟩) (fun v s' hv => ?_) fun _ _ e => e))
  obtain ⟨b, rfl, hq⟩ := hv
  exact wpAny_truthy_bool (wpAny_pure hq)
end
theorem vals_refs : ∀ {vs : List V} {us us' : List Value}, (∀ v ∈ vs, ∃ a, v = .ref a) → Vals vs us → Vals vs us' → us = us'
  | [], _, _, _, .nil, .nil => rfl
  | v :: vs, _, _, h, .cons r rs, .cons r' rs' => by
    obtain ⟨a, rfl⟩ := h v List.mem_cons_self
    cases r
    cases r'
    rw [vals_refs (fun v hv => h v (List.mem_cons_of_mem _ hv)) rs rs']
section
variable {X : Cx} {S : Type} {B : Bs} {Γ : S → List Sl} {α β : Type} {Ra : α → Pd} {Rb : β → Pd} {C f : Addr} {fd : FuncData} {ps : List Str} {k : Nat} {mf : β × α × Unit → (Bool → Prop) → Prop} {g : β → α → Bool} {a b : Expr} {pos : Pos} {ma : S → (α → S → Prop) → Prop} {mb : S → (List β → S → Prop) → Prop}
def rInOwn (Ra : α → Pd) (Rb : β → Pd) (g : β → α → Bool) : R2 := fun x y H Q => ∃ (p : Addr) (vs : List V) (F : Hp) (x' : α) (ys : List β), y = .ref p ∧ F p = some (.lst vs) ∧ Same F H ∧ (Ra x').p x F ∧ AllR Rb ys vs F ∧
  ∀ F' H', Same F F' → Same H H' → Same F' H' → Nw F H F' → Q (.bl true) H' ∧ Q (.bl (ys.any fun y => g y x')) H'
theorem op_inOwn (h1 : IsI Ra C) (h2 : IsI Rb C) (Fn : FnOk X.prog X.w X.K X.mg X.base CX0 k f fd ps (spP (acons Rb (acons Ra anil)) RBool mf)) (hm : ∀ x y Kf, Kf (g x y) → mf (x, y, ()) Kf) (hs : PySem.W.findIn X.K (.ref C) "__eq__" = some (some (.ref f))) (hf : PySem.W.isFn X.K (.ref f) = true) (hb : Binds X.K fd ps []) (hr : Room (k + 1) X.A) :
    OpR X (compareOp .In) (rInOwn Ra Rb g) := by
  intro pins s σ H x y v u Q I rx ry ⟨p, vs, F, x', ys, ey, hp, sF, hx, hy, hQ⟩
  subst ey
  cases ry
  obtain ⟨b, dx, fs, eb, hbI⟩ := h1 x' x F hx
  subst eb
  cases rx
  have refs : ∀ v ∈ vs, ∃ a, v = .ref a := fun v hv => by
    obtain ⟨i, hi⟩ := List.mem_iff_getElem?.mp hv
    have hlen := hy.len
    have hi' := (List.getElem?_eq_some_iff.mp hi).1
    obtain ⟨w', hw, rw'⟩ := hy.get (i := i) (List.getElem?_eq_getElem (by omega))
    rw [hi] at hw
    cases hw
    obtain ⟨c, _, _, e, _⟩ := h2 _ _ _ rw'
    exact ⟨c, e⟩
  obtain ⟨its, rv, pl, _⟩ := I.list (SqL.of (sF _ _ hp))
  have hlen := rv.length
  have hlen2 := hy.len
  refine in_listI (items := its.toArray) (e := fun i => match ys[i]? with | some z => g z x' | none => false) (I := fun s' => ∃ F' H', Inv X pins σ H' s' ∧ Same F F' ∧ Same H H' ∧ Same F' H' ∧ Nw F H F') (fun s' ⟨F', H', I', z1, z2, z3, z4⟩ => ?_) ⟨F, H, I, Same.refl _, Same.refl _, sF, Nw.refl⟩ (fun s' ⟨F', H', I', z1, z2, z3, z4⟩ => ?_) (fun j hj s' ⟨F', H', I', z1, z2, z3, z4⟩ => ?_)
  · obtain ⟨its', rv', pl', _⟩ := I'.list (SqL.of (z3 _ _ (z1 _ _ hp)))
    rw [vals_refs refs rv rv']
    exact pl'.isList
  · obtain ⟨q1, q2⟩ := hQ F' H' z1 z2 z3 z4
    refine ⟨⟨.bl true, H', I', rfl, q1⟩, ⟨.bl ((List.range its.toArray.size).any fun i => match ys[i]? with | some z => g z x' | none => false), H', I', rfl, ?_⟩⟩
    have : (List.range its.toArray.size).any (fun i => match ys[i]? with | some z => g z x' | none => false) = ys.any fun y => g y x' := by
      have e1 : its.toArray.size = ys.length := by rw [List.size_toArray]; omega
      rw [e1, Bool.eq_iff_iff, List.any_eq_true, List.any_eq_true]
      constructor
      · rintro ⟨i, hi, h⟩
        rw [List.mem_range] at hi
        rw [List.getElem?_eq_getElem hi] at h
        exact ⟨_, List.getElem_mem hi, h⟩
      · rintro ⟨z, hz, h⟩
        obtain ⟨i, hi, e⟩ := List.mem_iff_getElem.mp hz
        exact ⟨i, List.mem_range.mpr hi, by rw [List.getElem?_eq_getElem hi, e]; exact h⟩
    rw [this]
    exact q2
  · have hj' : j < ys.length := by rw [List.size_toArray] at hj; omega
    obtain ⟨v, hv, rv1⟩ := hy.get (i := j) (List.getElem?_eq_getElem hj')
    obtain ⟨c, dc, gs, ec, hcI⟩ := h2 _ _ _ rv1
    subst ec
    have hu : its.toArray[j] = Value.ref c := by
      obtain ⟨u', hu', ru⟩ := rv.get hv
      cases ru
      have : its[j]? = some (Value.ref c) := hu'
      simp only [List.getElem_toArray]
      exact (List.getElem?_eq_some_iff.mp this).2
    rw [hu]
    by_cases hcb : c = b
    · subst hcb
      unfold eqBool
      refine wpAny_holding ?_
      refine wpAny_ite_split (fun _ => ?_) (fun hab => absurd (by simp) hab)
      exact wpAny_bind (wpAny_rule (wpAny_pure ⟨.inl rfl, F', H', I', z1, z2, z3, z4⟩))
    · refine GQ.eqBool_refG hcb ?_
      obtain ⟨mA, J, _⟩ := ins_get I'.hok (z3 _ _ (z1 _ _ hcI))
      obtain ⟨mB, J', _⟩ := ins_get I'.hok (z3 _ _ (z1 _ _ hbI))
      obtain ⟨od, J, _⟩ := J.look
      obtain ⟨od', J', _⟩ := J'.look
      obtain ⟨m, hF⟩ := I'.fr
      refine PySem.W.cmp_K (op := .Eq) (tb := .ref C) (hr.in1).units0 hF I'.ok.mod.kin J J'.type (by simp [PySem.W.notFirst]) hs hf ?_
      refine wpAny_mono (run_own (B := E0) (Ar := X.A.in1) (Q := fun v H2 => v = .bl (g ys[j] x') ∧ ∃ F2, Same F F2 ∧ Same H H2 ∧ Same F2 H2 ∧ Nw F H F2) Fn hb hr.in1 rfl I' ?_) (fun r s2 ⟨z, H2, I2, rz, ez, F2, w1, w2, w3, w4⟩ => ?_) fun _ _ e => e
      · refine ⟨(ys[j], x', ()), F', fun r => r = g ys[j] x', ⟨(Rb _).mono _ _ _ z1 rv1, (Ra _).mono _ _ _ z1 hx, trivial⟩, z3, hm _ _ _ rfl, fun r v' F2 H2 hr' hv' w1 w2 w3 w4 => ?_⟩
        have hv' : v' = .bl r := hv'
        subst hv'; subst hr'
        refine ⟨rfl, F2, z1.trans w1, fun _ _ e => w2 _ _ (z2 _ _ e), w3, fun a o e => ?_⟩
        rcases w4 a o e with q | q
        · exact z4 a o q
        · right
          cases qq : H a with
          | none => rfl
          | some o' => rw [z2 _ _ qq] at q; cases q
      · subst ez
        cases (show r = Value.bool _ from rz)
        refine ⟨_, rfl, .inr ?_, F2, H2, I2, w1, w2, w3, w4⟩
        rw [List.getElem?_eq_getElem hj']
theorem te_inOwn (h1 : IsI Ra C) (h2 : IsI Rb C) (Fn : FnOk X.prog X.w X.K X.mg X.base CX0 k f fd ps (spP (acons Rb (acons Ra anil)) RBool mf)) (hm : ∀ x y Kf, Kf (g x y) → mf (x, y, ()) Kf) (hs : PySem.W.findIn X.K (.ref C) "__eq__" = some (some (.ref f))) (hf : PySem.W.isFn X.K (.ref f) = true) (hb : Binds X.K fd ps []) (hr : Room (k + 1) X.A)
    (ha : PE X a (tE B Γ Ra ma)) (hb' : PE X b (tE B Γ (RLst Rb) mb)) (hmk : behindInMarks .In b = false := by first | exact nobehind _ (by decide) (by decide) | rfl) : PE X (.Compare a [.In] [b] pos) (tE B Γ RBool (fun s K => ma s fun x s1 => mb s1 fun ys s2 => K true s2 ∧ K (ys.any fun y => g y x) s2)) := by
  refine pe_imp (pe_cmpR (op_inOwn h1 h2 Fn hm hs hf hb hr) ha hb' hmk) fun σ H Q ⟨s, F, K', A, hm, k⟩ => ?_
  refine ⟨s, F, _, A, hm, fun x s1 v F1 H1 h1 A1 e1 r1 => ⟨s1, F1, _, A1, h1, fun ys s2 w F2 H2 kk A2 e2 ⟨p, vs, ep, hp, av⟩ => ?_⟩⟩
  subst ep
  exact ⟨p, vs, F2, x, ys, rfl, hp, A2.sub, (Ra x).mono _ _ _ e2 r1, av, fun F3 H3 z1 z2 z3 z4 => ⟨k _ s2 _ F3 H3 kk.1 (A2.grow z1 z2 z3 z4) ((e1.trans e2).trans z1) rfl, k _ s2 _ F3 H3 kk.2 (A2.grow z1 z2 z3 z4) ((e1.trans e2).trans z1) rfl⟩⟩
end
end TL
namespace TL
open PySem L2
/-! ### tuples of ints that stand in the heap -/
section
variable {X : Cx} {S : Type} {B : Bs} {Γ : S → List Sl} {K : PySem.W.Frag} {a b e : Expr} {es : List Expr} {pos p : Pos} {ma mb m : S → (List Int → S → Prop) → Prop}
theorem te_ti (h : PE X e (tE B Γ RTi m)) : PE X e (tE B Γ (RTup K RInt) m) :=
  pe_imp h fun σ H Q ⟨s, F, K', A, hm, k⟩ => ⟨s, F, _, A, hm, fun x s1 v F1 H1 h1 A1 e1 ⟨q, ev, hq⟩ => k x s1 v F1 H1 h1 A1 e1 ⟨q, _, ev, SqT.of hq, AllR.ints.mpr rfl⟩⟩
theorem te_tupleTi {x1} (h : PA X es (tL B Γ RInt m)) : PE X (.Tuple es x1 pos) (tE B Γ RTi (fun s K => m s fun xs s1 => xs.length ≤ 1000000 ∧ K xs s1)) :=
  pe_imp (pe_tup h) fun σ H Q ⟨s, F, K', A, hm, k⟩ => ⟨s, F, _, A, hm, fun xs s1 vs F1 H1 ⟨q0, q1⟩ A1 e1 r1 => ⟨by rw [r1.len]; exact smallLen q0, fun p np => by
    obtain ⟨A2, e2⟩ := A1.lay (o := .tup vs) np
    exact k xs s1 (.ref p) _ _ q1 A2 (e1.trans e2) ⟨p, rfl, by rw [upd_same, AllR.ints.mp r1]⟩⟩⟩
theorem te_tuple_lTi (P : BP X "tuple" (.type "tuple")) (ha : PE X a (tE B Γ (RList K RInt) ma)) (hK : X.K = K := by rfl) (hs : starEach [a] X.env = (false, eval a X.env) :: starEach [] X.env := by rfl) (hpl : (backTo pos (starEach [] X.env)).any (·.1) = false := by rfl) :
    PE X (.Call (.Name "tuple" p) [a] [] pos) (tE B Γ RTi (fun s K => ma s fun y s1 => K y s1)) := by
  subst hK
  refine pe_imp (pe_bt P call_tuple_of (pa_cons ha pa_nil hs) hs hpl) fun σ H Q ⟨s, F, K', A, hm, k⟩ => ⟨s, F, _, A, hm, fun xs s1 v F1 H1 h1 A1 e1 ⟨w, vs, ev, h2, h3⟩ => ?_⟩
  subst ev
  refine ⟨w, vs, rfl, .inl ⟨seqL_mono A1.sub h2, fun l nl => ?_⟩⟩
  obtain ⟨A2, e2⟩ := A1.lay (o := .tup vs) nl
  exact k xs s1 (.ref l) _ _ h1 A2 (e1.trans e2) ⟨l, rfl, by rw [upd_same, AllR.ints.mp h3]⟩
theorem te_catTi (ha : PE X a (tE B Γ RTi ma)) (hb : PE X b (tE B Γ RTi mb)) :
    PE X (.BinOp a .Add b pos) (tE B Γ RTi (fun s K => ma s fun x s1 => mb s1 fun y s2 => x.length + y.length ≤ 1000000 ∧ K (x ++ y) s2)) := by
  refine pe_imp (pe_op op_catA ha hb) fun σ H Q ⟨s, F, K', A, hm, k⟩ => ⟨s, F, _, A, hm, fun xs s1 v F1 H1 h1 A1 e1 r1 => ⟨s1, F1, _, A1, h1, fun ys s2 w F2 H2 ⟨hc, h2⟩ A2 e2 r2 => ?_⟩⟩
  obtain ⟨q1, rfl, hq⟩ := r1
  obtain ⟨q2, rfl, hq2⟩ := r2
  have hq := e2 _ _ hq
  refine ⟨q1, q2, xs.map V.int, ys.map V.int, rfl, rfl, SqT.of (A2.sub _ _ hq), SqT.of (A2.sub _ _ hq2), by rw [List.length_map, List.length_map]; exact smallLen hc, fun z => ?_, fun _ z => ?_, fun _ _ p np => ?_⟩
  · have : xs = [] := by cases xs with | nil => rfl | cons => simp at z
    subst this
    exact k _ s2 _ F2 H2 h2 A2 (e1.trans e2) ⟨q2, rfl, hq2⟩
  · have : ys = [] := by cases ys with | nil => rfl | cons => simp at z
    subst this
    exact k _ s2 _ F2 H2 h2 A2 (e1.trans e2) ⟨q1, rfl, by rw [List.append_nil]; exact hq⟩
  · obtain ⟨A3, e3⟩ := A2.lay (o := .tup (xs.map V.int ++ ys.map V.int)) np
    exact k _ s2 _ _ _ h2 A3 ((e1.trans e2).trans e3) ⟨p, rfl, by rw [upd_same, List.map_append]⟩
end
section
variable {X : Cx} {S : Type} {B : Bs} {Γ : S → List Sl} {α : Type} {R : α → Pd} {C f : Addr} {fd : FuncData} {ps : List Str} {k : Nat} {x : Str} {p pos : Pos}
/-- C() -/
theorem te_make0 {mf : Unit → (α → Prop) → Prop} (M : Mk X.K C f) (F : FnOk X.prog X.w X.K X.mg X.base CX0 k f fd ps (spI C anil R mf)) (hr : Room (k + 1) X.A) (hm : X.mg x = some (.ref C)) (hb : Binds X.K fd ps []) (hg : Gl X x := by rfl) (hdb : (x == ("__debug__" : Str)) = false := by decide) :
    PE X (.Call (.Name x p) [] [] pos) (tE B Γ R (fun s K => mf () fun r => K r s)) :=
  pe_imp (pe_make0 M F hr hg hm hb .nil (pass0 (X := X)) hdb) fun σ H Q ⟨s, F, K', A, hm, k⟩ => by
    intro a dx na nd ne
    have fa := (A.fresh na).1
    have fd' := (A.fresh nd).1
    have keep : ∀ b u, H b = some u → (upd (upd H dx (.own a)) a (.ins C dx [])) b = some u := fun b u g => by
      rw [upd_ne (ne_of_none g na), upd_ne (ne_of_none g nd)]; exact g
    refine ⟨(), F, _, a, dx, [], rfl, trivial, fun b u g => keep b u (A.sub _ _ g), fa, fd', ne, upd_same, by rw [upd_ne ne, upd_same], hm, fun r F' H' kr rv eF eH sb nw => ⟨rfl, ?_⟩⟩
    refine k r s _ F' H' kr (A.grow eF (fun b u g => eH b u (ne_of_none g na) (keep b u g)) sb fun b u g => ?_) eF rv
    rcases nw b u g with z | z | z
    · exact .inl z
    · exact .inr (by rw [z]; exact na)
    · right
      cases q : H b with
      | none => rfl
      | some u' => rw [keep b u' q] at z; cases z
end
/-! ### what fixed gives back -/
theorem mFix_tup {K : PySem.W.Frag} {n : Nat} {Ps : List Pd} {k : Pd → Prop} (hl : Ps.length ≤ 1000000) (h : mMap Ps (mFix K n) fun ys => k (RTup K RId ys)) : mFix K (n + 1) (RTup K RId Ps) k :=
  .inr ⟨Ps, fun v F ⟨a, vs, h1, h2, h3⟩ => ⟨a, vs, h1, .inr h2, h3⟩, hl, h⟩
theorem allR_ids {F : Hp} : ∀ {xs : List Int} {vs : List V}, AllR RInt xs vs F ↔ AllR RId (xs.map RInt) vs F
  | [], [] => Iff.rfl
  | [], _ :: _ => Iff.rfl
  | _ :: _, [] => Iff.rfl
  | x :: xs, v :: vs => by
    show (_ ∧ AllR RInt xs vs F) ↔ (_ ∧ AllR RId (xs.map RInt) vs F)
    rw [allR_ids]; rfl
theorem rtup_ints {K : PySem.W.Frag} (xs : List Int) : RTup K RInt xs = RTup K RId (xs.map RInt) := by
  have : (fun v F => ∃ a vs, v = V.ref a ∧ SqT K F a vs ∧ AllR RInt xs vs F) = fun v F => ∃ a vs, v = V.ref a ∧ SqT K F a vs ∧ AllR RId (xs.map RInt) vs F := by
    funext v F
    simp only [allR_ids]
  unfold RTup
  congr 1
/-- a tuple of ints stays one -/
theorem mFix_ints {K : PySem.W.Frag} {n : Nat} {xs : List Int} {k : Pd → Prop} (hl : xs.length ≤ 1000000) (h : k (RTup K RInt xs)) : mFix K (n + 1) (RTup K RInt xs) k := by
  rw [rtup_ints] at h ⊢
  refine mFix_tup (by rw [List.length_map]; exact hl) (mMap_fix (fun P hP => ?_) h)
  obtain ⟨x, _, rfl⟩ := List.mem_map.mp hP
  exact atom_int x
theorem mFix_none {K : PySem.W.Frag} {k : List Pd → Prop} {n : Nat} (h : k []) : mMap [] (mFix K n) k := h
theorem mFix_cons {K : PySem.W.Frag} {P : Pd} {Ps : List Pd} {k : List Pd → Prop} {n : Nat} (h : mFix K n P fun y => mMap Ps (mFix K n) fun ys => k (y :: ys)) : mMap (P :: Ps) (mFix K n) k := h
/-- parts, told one by one -/
theorem rtn_id {K : PySem.W.Frag} {ι : Type} {As : ι → List Pd} {y : ι} : RTn K As y = RTup K RId (As y) := by
  have : (fun v F => ∃ a vs, v = V.ref a ∧ SqT K F a vs ∧ AllP (As y) vs F) = fun v F => ∃ a vs, v = V.ref a ∧ SqT K F a vs ∧ AllR RId (As y) vs F := by
    funext v F
    simp only [allR_id]
  unfold RTn RTup
  congr 1
theorem FnOk.impP {P : Program} {w : World} {K : PySem.W.Frag} {mg : Str → Option Value} {base : Heap} {CX : CXT} {k : Nat} {f : Addr} {fd : FuncData} {ps : List Str} {ι α : Type} {C : Addr} {As : ι → List Pd} {R : α → Pd} {m m' : ι → (α → Prop) → Prop}
    (h : FnOk P w K mg base CX k f fd ps (spI C As R m)) (i : ∀ y Kf, m' y Kf → m y Kf) : FnOk P w K mg base CX k f fd ps (spI C As R m') := by
  have key : ∀ vs H Q E, spI C As R m' vs H Q E → spI C As R m vs H Q E := fun vs H Q E ⟨y, F, Kf, a, dx, ws, h1, h2, h3, h4, h5, h6, h7, h8, hm, k⟩ => ⟨y, F, Kf, a, dx, ws, h1, h2, h3, h4, h5, h6, h7, h8, i _ _ hm, k⟩
  exact ⟨fun vs H Q E z => h.len _ _ _ _ (key _ _ _ _ z), fun A outer s H args us vs Q E hr e0 hb r z => h.run A outer s H args us vs Q E hr e0 hb r (key _ _ _ _ z)⟩
end TL
namespace G
open PySem L2 TL

def top (i : Nat) : Stmt := PySem.Challenge.pw_handlerims_k08_whole_words_go_past_one_a.main.body.getD i (.Pass ⟨0, 0, 0, 0⟩)
abbrev s_l_jar : Stmt := (top 44)
abbrev s_l_draw : Stmt := (top 45)
abbrev s_l_words : Stmt := (top 49)
abbrev s_l_contrary : Stmt := (top 48)
abbrev s_l_short : Stmt := (top 47)
abbrev s_l_powers : Stmt := (top 50)
abbrev s_l_are_of_one : Stmt := (top 51)
abbrev s_is_listed : Stmt := (top 17)
abbrev s_is_integer : Stmt := (top 14)
abbrev s_is_within : Stmt := (top 15)
abbrev s_is_letter : Stmt := (top 16)
abbrev s_are_letters : Stmt := (top 18)
abbrev s_need_few : Stmt := (top 31)
abbrev s_are_short : Stmt := (top 30)
abbrev s_rounded_of : Stmt := (top 29)
abbrev s_Word___init__ : Stmt := (inClass (top 33) 0)
abbrev s_need_word : Stmt := (top 32)
abbrev s_shortened_of : Stmt := (top 28)
abbrev s_do_pass : Stmt := (top 38)
abbrev s_go_past : Stmt := (top 41)
abbrev s_fixed : Stmt := (top 8)
abbrev s_Paper___init__ : Stmt := (inClass (top 9) 0)
abbrev s_NoRoot___init__ : Stmt := (inClass (top 36) 0)
abbrev s_Root___init__ : Stmt := (inClass (top 35) 0)
abbrev s_least_piece : Stmt := (top 37)
abbrev s_contrary_of : Stmt := (top 27)
abbrev s_root_letters : Stmt := (top 39)
abbrev s_times_in : Stmt := (top 40)
abbrev s_common_root : Stmt := (top 42)
abbrev s_Paper___bool__ : Stmt := (inClass (top 9) 1)
abbrev s_Denial___bool__ : Stmt := (inClass (top 10) 0)
abbrev s_l_couple_right : Stmt := (top 52)
abbrev s_l_pick : Stmt := (top 46)
abbrev s_Word_then : Stmt := (inClass (top 33) 7)
abbrev s_Word_contrary : Stmt := (inClass (top 33) 3)
abbrev s_need_number : Stmt := (top 19)
abbrev s_Word_times : Stmt := (inClass (top 33) 8)
abbrev s_Word___eq__ : Stmt := (inClass (top 33) 11)
abbrev s_l_pair_right : Stmt := (top 53)
abbrev s_law : Stmt := (top 54)
theorem sc_l_jar : FnScope ["_law_script", "_law_cell"] ["_law_script"] (defScope s_l_jar) := ⟨rfl, rfl, rfl, by decide +kernel, rfl, by decide +kernel, by decide +kernel⟩
theorem sc_l_draw : FnScope ["_law_jar_here", "_law_many", "_law_rest", "_law_at", "_law_cell", "_law_mixed"] ["_law_jar_here", "_law_many"] (defScope s_l_draw) := ⟨rfl, rfl, rfl, by decide +kernel, rfl, by decide +kernel, by decide +kernel⟩
theorem sc_l_words : FnScope ["_law_kinds", "_law_most", "_law_found", "_law_longest", "_law_letters", "_law_turn", "_law_longer", "_law_word", "_law_kind", "_law_letter"] ["_law_kinds", "_law_most"] (defScope s_l_words) := ⟨rfl, rfl, rfl, by decide +kernel, rfl, by decide +kernel, by decide +kernel⟩
theorem sc_l_contrary : FnScope ["_law_letters", "_law_letter"] ["_law_letters"] (defScope s_l_contrary) := ⟨rfl, rfl, rfl, by decide +kernel, rfl, by decide +kernel, by decide +kernel⟩
theorem sc_l_short : FnScope ["_law_letters", "_law_found", "_law_letter"] ["_law_letters"] (defScope s_l_short) := ⟨rfl, rfl, rfl, by decide +kernel, rfl, by decide +kernel, by decide +kernel⟩
theorem sc_l_powers : FnScope ["_law_words_here", "_law_known", "_law_number", "_law_word", "_law_part", "_law_told", "_law_turn"] ["_law_words_here"] (defScope s_l_powers) := ⟨rfl, rfl, rfl, by decide +kernel, rfl, by decide +kernel, by decide +kernel⟩
theorem sc_l_are_of_one : FnScope ["_law_known", "_law_one", "_law_other", "_law_number"] ["_law_known", "_law_one", "_law_other"] (defScope s_l_are_of_one) := ⟨rfl, rfl, rfl, by decide +kernel, rfl, by decide +kernel, by decide +kernel⟩
theorem sc_is_listed : FnScope ["value"] ["value"] (defScope s_is_listed) := ⟨rfl, rfl, rfl, by decide +kernel, rfl, by decide +kernel, by decide +kernel⟩
theorem sc_is_integer : FnScope ["value"] ["value"] (defScope s_is_integer) := ⟨rfl, rfl, rfl, by decide +kernel, rfl, by decide +kernel, by decide +kernel⟩
theorem sc_is_within : FnScope ["value", "least", "most"] ["value", "least", "most"] (defScope s_is_within) := ⟨rfl, rfl, rfl, by decide +kernel, rfl, by decide +kernel, by decide +kernel⟩
theorem sc_is_letter : FnScope ["value"] ["value"] (defScope s_is_letter) := ⟨rfl, rfl, rfl, by decide +kernel, rfl, by decide +kernel, by decide +kernel⟩
theorem sc_are_letters : FnScope ["value", "each"] ["value"] (defScope s_are_letters) := ⟨rfl, rfl, rfl, by decide +kernel, rfl, by decide +kernel, by decide +kernel⟩
theorem sc_need_few : FnScope ["many"] ["many"] (defScope s_need_few) := ⟨rfl, rfl, rfl, by decide +kernel, rfl, by decide +kernel, by decide +kernel⟩
theorem sc_are_short : FnScope ["letters", "one", "other"] ["letters"] (defScope s_are_short) := ⟨rfl, rfl, rfl, by decide +kernel, rfl, by decide +kernel, by decide +kernel⟩
theorem sc_rounded_of : FnScope ["letters", "many", "at"] ["letters"] (defScope s_rounded_of) := ⟨rfl, rfl, rfl, by decide +kernel, rfl, by decide +kernel, by decide +kernel⟩
theorem sc_Word___init__ : FnScope ["self", "letters", "letter"] ["self", "letters"] (defScope s_Word___init__) := ⟨rfl, rfl, rfl, by decide +kernel, rfl, by decide +kernel, by decide +kernel⟩
theorem sc_need_word : FnScope ["value", "part"] ["value", "part"] (defScope s_need_word) := ⟨rfl, rfl, rfl, by decide +kernel, rfl, by decide +kernel, by decide +kernel⟩
theorem sc_shortened_of : FnScope ["letters", "found", "letter"] ["letters"] (defScope s_shortened_of) := ⟨rfl, rfl, rfl, by decide +kernel, rfl, by decide +kernel, by decide +kernel⟩
theorem sc_do_pass : FnScope ["one", "other"] ["one", "other"] (defScope s_do_pass) := ⟨rfl, rfl, rfl, by decide +kernel, rfl, by decide +kernel, by decide +kernel⟩
theorem sc_go_past : FnScope ["one", "other"] ["one", "other"] (defScope s_go_past) := ⟨rfl, rfl, rfl, by decide +kernel, rfl, by decide +kernel, by decide +kernel⟩
theorem sc_fixed : FnScope ["value", "each"] ["value"] (defScope s_fixed) := ⟨rfl, rfl, rfl, by decide +kernel, rfl, by decide +kernel, by decide +kernel⟩
theorem sc_Paper___init__ : FnScope ["self", "word", "parts"] ["self", "word", "parts"] (defScope s_Paper___init__) := ⟨rfl, rfl, rfl, by decide +kernel, rfl, by decide +kernel, by decide +kernel⟩
theorem sc_NoRoot___init__ : FnScopeS ["self"] ["self"] (defScope s_NoRoot___init__) := ⟨rfl, rfl, rfl, by decide +kernel, rfl, by decide +kernel, by decide +kernel, by decide +kernel, rfl, rfl⟩
theorem sc_Root___init__ : FnScopeS ["self", "root", "here", "there"] ["self", "root", "here", "there"] (defScope s_Root___init__) := ⟨rfl, rfl, rfl, by decide +kernel, rfl, by decide +kernel, by decide +kernel, by decide +kernel, rfl, rfl⟩
theorem sc_least_piece : FnScope ["letters", "many", "size"] ["letters"] (defScope s_least_piece) := ⟨rfl, rfl, rfl, by decide +kernel, rfl, by decide +kernel, by decide +kernel⟩
theorem sc_contrary_of : FnScope ["letters", "letter"] ["letters"] (defScope s_contrary_of) := ⟨rfl, rfl, rfl, by decide +kernel, rfl, by decide +kernel, by decide +kernel⟩
theorem sc_root_letters : FnScope ["letters", "core", "ahead"] ["letters"] (defScope s_root_letters) := ⟨rfl, rfl, rfl, by decide +kernel, rfl, by decide +kernel, by decide +kernel⟩
theorem sc_times_in : FnScope ["letters", "root", "core", "piece", "number"] ["letters", "root"] (defScope s_times_in) := ⟨rfl, rfl, rfl, by decide +kernel, rfl, by decide +kernel, by decide +kernel⟩
theorem sc_common_root : FnScope ["one", "other", "mine", "its", "root"] ["one", "other"] (defScope s_common_root) := ⟨rfl, rfl, rfl, by decide +kernel, rfl, by decide +kernel, by decide +kernel⟩
theorem sc_Paper___bool__ : FnScope ["self"] ["self"] (defScope s_Paper___bool__) := ⟨rfl, rfl, rfl, by decide +kernel, rfl, by decide +kernel, by decide +kernel⟩
theorem sc_Denial___bool__ : FnScope ["self"] ["self"] (defScope s_Denial___bool__) := ⟨rfl, rfl, rfl, by decide +kernel, rfl, by decide +kernel, by decide +kernel⟩
theorem sc_l_couple_right : FnScope ["_law_known", "_law_one", "_law_other", "_law_due", "_law_mine", "_law_its"] ["_law_known", "_law_one", "_law_other"] (defScope s_l_couple_right) := ⟨rfl, rfl, rfl, by decide +kernel, rfl, by decide +kernel, by decide +kernel⟩
theorem sc_l_pick : FnScope ["_law_jar_here", "_law_some"] ["_law_jar_here", "_law_some"] (defScope s_l_pick) := ⟨rfl, rfl, rfl, by decide +kernel, rfl, by decide +kernel, by decide +kernel⟩
theorem sc_Word_then : FnScope ["self", "other"] ["self", "other"] (defScope s_Word_then) := ⟨rfl, rfl, rfl, by decide +kernel, rfl, by decide +kernel, by decide +kernel⟩
theorem sc_Word_contrary : FnScope ["self"] ["self"] (defScope s_Word_contrary) := ⟨rfl, rfl, rfl, by decide +kernel, rfl, by decide +kernel, by decide +kernel⟩
theorem sc_need_number : FnScope ["value", "part", "least", "most"] ["value", "part", "least", "most"] (defScope s_need_number) := ⟨rfl, rfl, rfl, by decide +kernel, rfl, by decide +kernel, by decide +kernel⟩
theorem sc_Word_times : FnScope ["self", "number", "letters"] ["self", "number"] (defScope s_Word_times) := ⟨rfl, rfl, rfl, by decide +kernel, rfl, by decide +kernel, by decide +kernel⟩
theorem sc_Word___eq__ : FnScope ["self", "other"] ["self", "other"] (defScope s_Word___eq__) := ⟨rfl, rfl, rfl, by decide +kernel, rfl, by decide +kernel, by decide +kernel⟩
theorem sc_l_pair_right : FnScope ["_law_jar_here", "_law_known", "_law_words_here", "_law_one", "_law_other", "_law_ahead", "_law_mine", "_law_its", "_law_moved", "_law_told", "_law_root", "_law_number", "_law_word"] ["_law_jar_here", "_law_known", "_law_words_here", "_law_one", "_law_other"] (defScope s_l_pair_right) := ⟨rfl, rfl, rfl, by decide +kernel, rfl, by decide +kernel, by decide +kernel⟩
theorem sc_law : FnScope ["_law_script", "_law_jar_here", "_law_left", "_law_kinds", "_law_way", "_law_words_here", "_law_known", "_law_some", "_law_one", "_law_other", "_law_turn", "_law_piece", "_law_long", "_law_spot"] ["_law_script"] (defScope s_law) := ⟨rfl, rfl, rfl, by decide +kernel, rfl, by decide +kernel, by decide +kernel⟩
structure Tx (P : Program) (K : PySem.W.Frag) (mg : Str → Option Value) where
  pfn : Str
  pfile : ((P.main.file : Str) == pfn) = true
  psup : (P.main.scope.names.lookup ("super" : Str)).isSome = false
  a_l_jar : Addr
  d_l_jar : FuncData
  F_l_jar : Fun K "_law_jar" "_law_jar" s_l_jar a_l_jar d_l_jar
  b_l_jar : Binds K d_l_jar ["_law_script"] []
  g_l_jar : mg "_law_jar" = some (.ref a_l_jar)
  a_l_draw : Addr
  d_l_draw : FuncData
  F_l_draw : Fun K "_law_draw" "_law_draw" s_l_draw a_l_draw d_l_draw
  b_l_draw : Binds K d_l_draw ["_law_jar_here", "_law_many"] []
  g_l_draw : mg "_law_draw" = some (.ref a_l_draw)
  a_l_words : Addr
  d_l_words : FuncData
  F_l_words : Fun K "_law_words" "_law_words" s_l_words a_l_words d_l_words
  b_l_words : Binds K d_l_words ["_law_kinds", "_law_most"] []
  g_l_words : mg "_law_words" = some (.ref a_l_words)
  a_l_contrary : Addr
  d_l_contrary : FuncData
  F_l_contrary : Fun K "_law_contrary" "_law_contrary" s_l_contrary a_l_contrary d_l_contrary
  b_l_contrary : Binds K d_l_contrary ["_law_letters"] []
  g_l_contrary : mg "_law_contrary" = some (.ref a_l_contrary)
  a_l_short : Addr
  d_l_short : FuncData
  F_l_short : Fun K "_law_short" "_law_short" s_l_short a_l_short d_l_short
  b_l_short : Binds K d_l_short ["_law_letters"] []
  g_l_short : mg "_law_short" = some (.ref a_l_short)
  a_l_powers : Addr
  d_l_powers : FuncData
  F_l_powers : Fun K "_law_powers" "_law_powers" s_l_powers a_l_powers d_l_powers
  b_l_powers : Binds K d_l_powers ["_law_words_here"] []
  g_l_powers : mg "_law_powers" = some (.ref a_l_powers)
  a_l_are_of_one : Addr
  d_l_are_of_one : FuncData
  F_l_are_of_one : Fun K "_law_are_of_one" "_law_are_of_one" s_l_are_of_one a_l_are_of_one d_l_are_of_one
  b_l_are_of_one : Binds K d_l_are_of_one ["_law_known", "_law_one", "_law_other"] []
  g_l_are_of_one : mg "_law_are_of_one" = some (.ref a_l_are_of_one)
  a_is_listed : Addr
  d_is_listed : FuncData
  F_is_listed : Fun K "is_listed" "is_listed" s_is_listed a_is_listed d_is_listed
  b_is_listed : Binds K d_is_listed ["value"] []
  g_is_listed : mg "is_listed" = some (.ref a_is_listed)
  a_is_integer : Addr
  d_is_integer : FuncData
  F_is_integer : Fun K "is_integer" "is_integer" s_is_integer a_is_integer d_is_integer
  b_is_integer : Binds K d_is_integer ["value"] []
  g_is_integer : mg "is_integer" = some (.ref a_is_integer)
  a_is_within : Addr
  d_is_within : FuncData
  F_is_within : Fun K "is_within" "is_within" s_is_within a_is_within d_is_within
  b_is_within : Binds K d_is_within ["value", "least", "most"] []
  g_is_within : mg "is_within" = some (.ref a_is_within)
  a_is_letter : Addr
  d_is_letter : FuncData
  F_is_letter : Fun K "is_letter" "is_letter" s_is_letter a_is_letter d_is_letter
  b_is_letter : Binds K d_is_letter ["value"] []
  g_is_letter : mg "is_letter" = some (.ref a_is_letter)
  a_are_letters : Addr
  d_are_letters : FuncData
  F_are_letters : Fun K "are_letters" "are_letters" s_are_letters a_are_letters d_are_letters
  b_are_letters : Binds K d_are_letters ["value"] []
  g_are_letters : mg "are_letters" = some (.ref a_are_letters)
  a_need_few : Addr
  d_need_few : FuncData
  F_need_few : Fun K "need_few" "need_few" s_need_few a_need_few d_need_few
  b_need_few : Binds K d_need_few ["many"] []
  g_need_few : mg "need_few" = some (.ref a_need_few)
  a_are_short : Addr
  d_are_short : FuncData
  F_are_short : Fun K "are_short" "are_short" s_are_short a_are_short d_are_short
  b_are_short : Binds K d_are_short ["letters"] []
  g_are_short : mg "are_short" = some (.ref a_are_short)
  a_rounded_of : Addr
  d_rounded_of : FuncData
  F_rounded_of : Fun K "rounded_of" "rounded_of" s_rounded_of a_rounded_of d_rounded_of
  b_rounded_of : Binds K d_rounded_of ["letters"] []
  g_rounded_of : mg "rounded_of" = some (.ref a_rounded_of)
  a_Word___init__ : Addr
  d_Word___init__ : FuncData
  F_Word___init__ : Fun K "__init__" "Word.__init__" s_Word___init__ a_Word___init__ d_Word___init__
  b_Word___init__ : Binds K d_Word___init__ ["self", "letters"] []
  a_need_word : Addr
  d_need_word : FuncData
  F_need_word : Fun K "need_word" "need_word" s_need_word a_need_word d_need_word
  b_need_word : Binds K d_need_word ["value", "part"] []
  g_need_word : mg "need_word" = some (.ref a_need_word)
  a_shortened_of : Addr
  d_shortened_of : FuncData
  F_shortened_of : Fun K "shortened_of" "shortened_of" s_shortened_of a_shortened_of d_shortened_of
  b_shortened_of : Binds K d_shortened_of ["letters"] []
  g_shortened_of : mg "shortened_of" = some (.ref a_shortened_of)
  a_do_pass : Addr
  d_do_pass : FuncData
  F_do_pass : Fun K "do_pass" "do_pass" s_do_pass a_do_pass d_do_pass
  b_do_pass : Binds K d_do_pass ["one", "other"] []
  g_do_pass : mg "do_pass" = some (.ref a_do_pass)
  a_go_past : Addr
  d_go_past : FuncData
  F_go_past : Fun K "go_past" "go_past" s_go_past a_go_past d_go_past
  b_go_past : Binds K d_go_past ["one", "other"] []
  g_go_past : mg "go_past" = some (.ref a_go_past)
  a_fixed : Addr
  d_fixed : FuncData
  F_fixed : Fun K "fixed" "fixed" s_fixed a_fixed d_fixed
  b_fixed : Binds K d_fixed ["value"] []
  g_fixed : mg "fixed" = some (.ref a_fixed)
  a_Paper___init__ : Addr
  d_Paper___init__ : FuncData
  F_Paper___init__ : Fun K "__init__" "Paper.__init__" s_Paper___init__ a_Paper___init__ d_Paper___init__
  a_NoRoot___init__ : Addr
  d_NoRoot___init__ : FuncData
  ca_NoRoot___init__ : Addr
  cc_NoRoot___init__ : Addr
  C_NoRoot : Addr
  F_NoRoot___init__ : FunS K pfn "__init__" "NoRoot.__init__" s_NoRoot___init__ a_NoRoot___init__ d_NoRoot___init__ ca_NoRoot___init__ cc_NoRoot___init__ C_NoRoot
  b_NoRoot___init__ : Binds K d_NoRoot___init__ ["self"] []
  a_Root___init__ : Addr
  d_Root___init__ : FuncData
  ca_Root___init__ : Addr
  cc_Root___init__ : Addr
  C_Root : Addr
  F_Root___init__ : FunS K pfn "__init__" "Root.__init__" s_Root___init__ a_Root___init__ d_Root___init__ ca_Root___init__ cc_Root___init__ C_Root
  b_Root___init__ : Binds K d_Root___init__ ["self", "root", "here", "there"] []
  a_least_piece : Addr
  d_least_piece : FuncData
  F_least_piece : Fun K "least_piece" "least_piece" s_least_piece a_least_piece d_least_piece
  b_least_piece : Binds K d_least_piece ["letters"] []
  g_least_piece : mg "least_piece" = some (.ref a_least_piece)
  a_contrary_of : Addr
  d_contrary_of : FuncData
  F_contrary_of : Fun K "contrary_of" "contrary_of" s_contrary_of a_contrary_of d_contrary_of
  b_contrary_of : Binds K d_contrary_of ["letters"] []
  g_contrary_of : mg "contrary_of" = some (.ref a_contrary_of)
  a_root_letters : Addr
  d_root_letters : FuncData
  F_root_letters : Fun K "root_letters" "root_letters" s_root_letters a_root_letters d_root_letters
  b_root_letters : Binds K d_root_letters ["letters"] []
  g_root_letters : mg "root_letters" = some (.ref a_root_letters)
  a_times_in : Addr
  d_times_in : FuncData
  F_times_in : Fun K "times_in" "times_in" s_times_in a_times_in d_times_in
  b_times_in : Binds K d_times_in ["letters", "root"] []
  g_times_in : mg "times_in" = some (.ref a_times_in)
  a_common_root : Addr
  d_common_root : FuncData
  F_common_root : Fun K "common_root" "common_root" s_common_root a_common_root d_common_root
  b_common_root : Binds K d_common_root ["one", "other"] []
  g_common_root : mg "common_root" = some (.ref a_common_root)
  a_Paper___bool__ : Addr
  d_Paper___bool__ : FuncData
  F_Paper___bool__ : Fun K "__bool__" "Paper.__bool__" s_Paper___bool__ a_Paper___bool__ d_Paper___bool__
  b_Paper___bool__ : Binds K d_Paper___bool__ ["self"] []
  a_Denial___bool__ : Addr
  d_Denial___bool__ : FuncData
  F_Denial___bool__ : Fun K "__bool__" "Denial.__bool__" s_Denial___bool__ a_Denial___bool__ d_Denial___bool__
  b_Denial___bool__ : Binds K d_Denial___bool__ ["self"] []
  a_l_couple_right : Addr
  d_l_couple_right : FuncData
  F_l_couple_right : Fun K "_law_couple_right" "_law_couple_right" s_l_couple_right a_l_couple_right d_l_couple_right
  b_l_couple_right : Binds K d_l_couple_right ["_law_known", "_law_one", "_law_other"] []
  g_l_couple_right : mg "_law_couple_right" = some (.ref a_l_couple_right)
  a_l_pick : Addr
  d_l_pick : FuncData
  F_l_pick : Fun K "_law_pick" "_law_pick" s_l_pick a_l_pick d_l_pick
  b_l_pick : Binds K d_l_pick ["_law_jar_here", "_law_some"] []
  g_l_pick : mg "_law_pick" = some (.ref a_l_pick)
  a_Word_then : Addr
  d_Word_then : FuncData
  F_Word_then : Fun K "then" "Word.then" s_Word_then a_Word_then d_Word_then
  b_Word_then : Binds K d_Word_then ["self", "other"] []
  a_Word_contrary : Addr
  d_Word_contrary : FuncData
  F_Word_contrary : Fun K "contrary" "Word.contrary" s_Word_contrary a_Word_contrary d_Word_contrary
  b_Word_contrary : Binds K d_Word_contrary ["self"] []
  a_need_number : Addr
  d_need_number : FuncData
  F_need_number : Fun K "need_number" "need_number" s_need_number a_need_number d_need_number
  b_need_number : Binds K d_need_number ["value", "part", "least", "most"] []
  g_need_number : mg "need_number" = some (.ref a_need_number)
  a_Word_times : Addr
  d_Word_times : FuncData
  F_Word_times : Fun K "times" "Word.times" s_Word_times a_Word_times d_Word_times
  b_Word_times : Binds K d_Word_times ["self", "number"] []
  a_Word___eq__ : Addr
  d_Word___eq__ : FuncData
  F_Word___eq__ : Fun K "__eq__" "Word.__eq__" s_Word___eq__ a_Word___eq__ d_Word___eq__
  b_Word___eq__ : Binds K d_Word___eq__ ["self", "other"] []
  a_l_pair_right : Addr
  d_l_pair_right : FuncData
  F_l_pair_right : Fun K "_law_pair_right" "_law_pair_right" s_l_pair_right a_l_pair_right d_l_pair_right
  b_l_pair_right : Binds K d_l_pair_right ["_law_jar_here", "_law_known", "_law_words_here", "_law_one", "_law_other"] []
  g_l_pair_right : mg "_law_pair_right" = some (.ref a_l_pair_right)
  a_law : Addr
  d_law : FuncData
  F_law : Fun K "law" "law" s_law a_law d_law
  b_law : Binds K d_law ["_law_script"] []
  g_law : mg "law" = some (.ref a_law)
  C_Word : Addr
  g_Word : mg "Word" = some (.ref C_Word)
  cls_Word : Cls K C_Word
  mk_Word : Mk K C_Word a_Word___init__
  g_NoRoot : mg "NoRoot" = some (.ref C_NoRoot)
  cls_NoRoot : Cls K C_NoRoot
  mk_NoRoot : Mk K C_NoRoot a_NoRoot___init__
  g_Root : mg "Root" = some (.ref C_Root)
  cls_Root : Cls K C_Root
  mk_Root : Mk K C_Root a_Root___init__
  na_NoRoot_parts : NoAttr K C_NoRoot "parts"
  na_NoRoot_word : NoAttr K C_NoRoot "word"
  na_Root_here : NoAttr K C_Root "here"
  na_Root_parts : NoAttr K C_Root "parts"
  na_Root_root : NoAttr K C_Root "root"
  na_Root_there : NoAttr K C_Root "there"
  na_Root_word : NoAttr K C_Root "word"
  na_Word_is_short : NoAttr K C_Word "is_short"
  na_Word_is_short_round : NoAttr K C_Word "is_short_round"
  na_Word_kinds : NoAttr K C_Word "kinds"
  na_Word_length : NoAttr K C_Word "length"
  na_Word_letters : NoAttr K C_Word "letters"
  me_Word_contrary : Meth K C_Word "contrary" a_Word_contrary
  me_Word_then : Meth K C_Word "then" a_Word_then
  me_Word_times : Meth K C_Word "times" a_Word_times
  isc_Word : C8.InsC K C_Word
  eq_Word : PySem.W.findIn K (.ref C_Word) "__eq__" = some (some (.ref a_Word___eq__))
  eqf_Word : PySem.W.isFn K (.ref a_Word___eq__) = true
  ne_Word : PySem.W.findIn K (.ref C_Word) "__ne__" = some (some (.builtin "object.__ne__"))
  ka_Word : PySem.W.kitAny K (.ref C_Word) [.type "list", .type "tuple"] = some false
  bo_NoRoot : PySem.W.findIn K (.ref C_NoRoot) "__bool__" = some (some (.ref a_Denial___bool__))
  bof_NoRoot : PySem.W.isFn K (.ref a_Denial___bool__) = true
  bo_Root : PySem.W.findIn K (.ref C_Root) "__bool__" = some (some (.ref a_Paper___bool__))
  bof_Root : PySem.W.isFn K (.ref a_Paper___bool__) = true
  z_super : mg "super" = none
  kty_P : PySem.W.typeIn K (.ref a_Paper___init__) = some (.type "function")
  kfn_P : PySem.W.fnIn K a_Paper___init__ = true
  kany : PySem.W.nsIn K PySem.cStatics "thirdparty.any" = some none
  kmro_NoRoot : PySem.W.mroIn K C_NoRoot (.ref C_NoRoot) = some true
  ksup_NoRoot : PySem.W.ks_superIn K C_NoRoot C_NoRoot "__init__" = some (some (.ref a_Paper___init__))
  kmro_Root : PySem.W.mroIn K C_Root (.ref C_Root) = some true
  ksup_Root : PySem.W.ks_superIn K C_Root C_Root "__init__" = some (some (.ref a_Paper___init__))
  z_abs : mg "abs" = none
  z_all : mg "all" = none
  z_bool : mg "bool" = none
  z_enumerate : mg "enumerate" = none
  z_int : mg "int" = none
  z_isinstance : mg "isinstance" = none
  z_len : mg "len" = none
  z_list : mg "list" = none
  z_range : mg "range" = none
  z_repr : mg "repr" = none
  z_sorted : mg "sorted" = none
  z_tuple : mg "tuple" = none
  z_zip : mg "zip" = none
  c_LAST_KIND : ∃ t, mg "LAST_KIND" = some (.int 26 t)
  c_MOST_LETTERS : ∃ t, mg "MOST_LETTERS" = some (.int 500 t)
section
variable {P : Program} {w : World} {K : PySem.W.Frag} {mg : Str → Option Value} {base : Heap}
@[irreducible] def m_l_jar (p_l_script : (List Int)) (Kf : Jar → Prop) : Prop :=
  ((pyCut p_l_script none (some (58 : Int))).length ≤ 1000000 ∧ mMap (pyCut p_l_script none (some (58 : Int))) (fun (x1 : Int) K3 => K3 x1) fun ys4 => Kf (ys4, (0 : Int), (0 : Int)))
theorem ok_l_jar (T : Tx P K mg) : FnOk P w K mg base CX0 1 T.a_l_jar T.d_l_jar ["_law_script"] (spO OJar (acons (RList K RInt) anil) (fun (y : (List Int) × Unit) Kf => m_l_jar y.1 Kf)) :=
  fnO T.F_l_jar sc_l_jar (fun _ => rfl) fun cdv A outer s H E hr y Kf B => ts_use (
  (ts_retJar (te_lst (tn_map sc_l_jar.nd (ti_list (K := K) (te_known (K := K) (tn_cut (te_var 0 (R := (RList K RInt)) (f := fun (s : Unit) => y.1)) to_none (to_some te_int)))) (blkOk_by (own := [("_law_cell", 1)]) (N := ["_law_script", "_law_cell"]) (sc := defScope s_l_jar) (by decide +kernel)) (fun _ _ _ _ _ => (pg_name (i := 1) sc_l_jar.nd rfl (Or.inl rfl))) (tg_name 1) (fun s2 x1 B' s H C cl fp => (te_toint (bp_int T.z_int) (te_var 1 (R := RInt) (f := fun (s : Unit) => x1)))))) te_int te_int)) (by intro _ h; delta m_l_jar at h; exact h)
@[irreducible] def m_l_draw (p_l_many : Int) (t : Jar) (Kf : Int → Jar → Prop) : Prop :=
  (if (decide ((0 : Int) < t.2.2)) = true then (CDivN t.2.2 p_l_many ∧ (p_l_many ≠ 0 ∧ Kf (t.2.2.fmod p_l_many) (t.1, t.2.1, (t.2.2.fdiv p_l_many)))) else
  (CMul (51151 : Int) t.2.1 ∧ (fun (l_cell9 : Int) => (([] : List Int).length ≤ 1000000 ∧ mIf (!decide ((t.1, (t.2.1 + (1 : Int)), t.2.2).1 = ([] : List Int))) (fun (Kn11 : Jar × Int → Prop) => ((((t.1, (t.2.1 + (1 : Int)), t.2.2).1).length : Int) ≠ 0 ∧ (∃ v18, pyAt ((t.1, (t.2.1 + (1 : Int)), t.2.2).1) (t.2.1.fmod (((t.1, (t.2.1 + (1 : Int)), t.2.2).1).length : Int)) = some v18 ∧ Kn11 ((t.1, (t.2.1 + (1 : Int)), t.2.2), v18)))) (fun (Kn12 : Jar × Int → Prop) => Kn12 ((t.1, (t.2.1 + (1 : Int)), t.2.2), l_cell9)) (fun (s17 : Jar × Int) =>
  mB (fun (K19 : Bool → Jar × Int → Prop) => (if (decide (t.2.1 < (s17.1.1.length : Int))) = true then (CPow (10 : Int) (18 : Int) ∧ K19 (decide (((10 : Int) ^ (18 : Int).toNat) ≤ (s17.2.natAbs : Int))) (s17.1, s17.2)) else K19 false (s17.1, s17.2))) (fun b20 s21 => (if b20 = true then (CPow (10 : Int) (18 : Int) ∧ (CMul (2 : Int) ((s21.2.natAbs : Int) - ((10 : Int) ^ (18 : Int).toNat)) ∧ (fun (l_rest14 : Int) => (CDivN l_rest14 p_l_many ∧ (p_l_many ≠ 0 ∧ Kf (l_rest14.fmod p_l_many) (s21.1.1, s21.1.2.1, (l_rest14.fdiv p_l_many))))) (((2 : Int) * ((s21.2.natAbs : Int) - ((10 : Int) ^ (18 : Int).toNat))) + (if (decide (s21.2 < (0 : Int))) then 1 else 0)))) else
  ((2147483647 : Int) ≠ 0 ∧ (CMul (33331 : Int) t.2.1 ∧ (CPow (((s21.2.fmod (2147483647 : Int)) + ((33331 : Int) * t.2.1)) + (6047 : Int)) (5 : Int) ∧ ((2147483549 : Int) ≠ 0 ∧ (fun (l_mixed15 : Int) => (CMul (2 : Int) t.2.1 ∧ (CMul l_mixed15 (((2 : Int) * t.2.1) + (1861 : Int)) ∧ (CMul (51151 : Int) t.2.1 ∧ (CMul ((51151 : Int) * t.2.1) t.2.1 ∧ (CPow (((l_mixed15 * (((2 : Int) * t.2.1) + (1861 : Int))) + (((51151 : Int) * t.2.1) * t.2.1)) + (44131 : Int)) (3 : Int) ∧ ((2147483563 : Int) ≠ 0 ∧ (fun (l_mixed16 : Int) => (CDivN l_mixed16 (64 : Int) ∧ (p_l_many ≠ 0 ∧ Kf ((l_mixed16.fdiv (64 : Int)).fmod p_l_many) s21.1))) (((((l_mixed15 * (((2 : Int) * t.2.1) + (1861 : Int))) + (((51151 : Int) * t.2.1) * t.2.1)) + (44131 : Int)) ^ (3 : Int).toNat).fmod (2147483563 : Int))))))))) (((((s21.2.fmod (2147483647 : Int)) + ((33331 : Int) * t.2.1)) + (6047 : Int)) ^ (5 : Int).toNat).fmod (2147483549 : Int))))))))))) (((51151 : Int) * t.2.1) + (6047 : Int))))
theorem ok_l_draw (T : Tx P K mg) : FnOk P w K mg base CX0 1 T.a_l_draw T.d_l_draw ["_law_jar_here", "_law_many"] (spB OJar (acons RInt anil) RInt (fun (y : Int × Unit) t Kf => m_l_draw y.1 t Kf)) :=
  fnB T.F_l_draw sc_l_draw (fun _ => rfl) fun cdv A outer s H E hr j y Kf B => ts_use (
  (ts_ifr (tt_c cr_gt (te_jar2 0 (fun (s : Jar) => s)) te_int)
  (ts_set (i := 2) (R := RInt) (ps_set sc_l_draw.nd rfl (Or.inl rfl) (te_toint (bp_int T.z_int) (te_jar2 0 (fun (s : Jar) => s)))) (fun l_rest7 =>
  (ts_jar2 0 (fun (s : Jar) => s) (fun (s : Jar) t => t) (te_fdiv (te_var 2 (R := RInt) (f := fun (s : Jar) => l_rest7)) (te_var 1 (R := RInt) (f := fun (s : Jar) => y.1)))
  (ts_retB 0 (fun (s : Jar) => s) (te_mod (te_toint (bp_int T.z_int) (te_var 2 (R := RInt) (f := fun (s : Jar) => l_rest7))) (te_var 1 (R := RInt) (f := fun (s : Jar) => y.1)))))))
  (ts_set (i := 3) (R := RInt) (ps_set sc_l_draw.nd rfl (Or.inl rfl) (te_jar1 0 (fun (s : Jar) => s))) (fun l_at8 =>
  (ts_jar1 0 (fun (s : Jar) => s) (fun (s : Jar) t => t) (te_add (te_var 3 (R := RInt) (f := fun (s : Jar) => l_at8)) te_int)
  (ts_set (i := 4) (R := RInt) (ps_set sc_l_draw.nd rfl (Or.inl rfl) (te_add (te_mul te_int (te_var 3 (R := RInt) (f := fun (s : Jar) => l_at8))) te_int)) (fun l_cell9 =>
  (ts_if (Γj := fun s : Jar × Int => [.bo j (OJar s.1), .im (RInt y.1), .any, .im (RInt l_at8), .im (RInt s.2), .any]) (tt_c (cr_neD (K := K) rfl hr.units (dat_lst dat_int)) (te_jar0 0 (fun (s : Jar) => s)) (te_lst (tn_list (R := RInt) tl_nil)))
  (fun Kn11 => (ts_set (i := 4) (R := RInt) (ps_set sc_l_draw.nd rfl (Or.inl rfl) (te_ixL (te_l (te_jar0 0 (fun (s : Jar) => s))) (te_mod (te_toint (bp_int T.z_int) (te_var 3 (R := RInt) (f := fun (s : Jar) => l_at8))) (te_len (bp_len T.z_len) lens_list (te_l (te_jar0 0 (fun (s : Jar) => s))))))) (fun l_cell13 =>
  (ts_end (Γj := fun s : Jar × Int => [.bo j (OJar s.1), .im (RInt y.1), .any, .im (RInt l_at8), .im (RInt s.2), .any]) (fun (s : Jar) => (s, l_cell13)) (fun s => (.same (.same (.drop (.same (.same (.drop .nil)))))))))))
  (fun Kn12 => (ts_end (Γj := fun s : Jar × Int => [.bo j (OJar s.1), .im (RInt y.1), .any, .im (RInt l_at8), .im (RInt s.2), .any]) (fun (s : Jar) => (s, l_cell9)) (fun s => (.same (.same (.drop (.same (.same (.drop .nil)))))))))
  (ts_ifr (tt_w (tw_and (tt_c cr_lt (te_var 3 (R := RInt) (f := fun (s : Jar × Int) => l_at8)) (te_len (bp_len T.z_len) lens_list (te_l (te_jar0 0 (fun (s : Jar × Int) => s.1))))) (tw_and1 (tt_c cr_ge (te_abs (bp_abs T.z_abs) (te_var 4 (R := RInt) (f := fun (s : Jar × Int) => s.2))) (te_pow te_int te_int)))))
  (ts_set (i := 2) (R := RInt) (ps_set sc_l_draw.nd rfl (Or.inl rfl) (te_add (te_mul te_int (te_sub (te_abs (bp_abs T.z_abs) (te_var 4 (R := RInt) (f := fun (s : Jar × Int) => s.2))) (te_pow te_int te_int))) (te_bint (bp_int T.z_int) (te_c cr_lt (te_var 4 (R := RInt) (f := fun (s : Jar × Int) => s.2)) te_int)))) (fun l_rest14 =>
  (ts_jar2 0 (fun (s : Jar × Int) => s.1) (fun (s : Jar × Int) t => (t, s.2)) (te_fdiv (te_toint (bp_int T.z_int) (te_var 2 (R := RInt) (f := fun (s : Jar × Int) => l_rest14))) (te_var 1 (R := RInt) (f := fun (s : Jar × Int) => y.1)))
  (ts_retB 0 (fun (s : Jar × Int) => s.1) (te_mod (te_toint (bp_int T.z_int) (te_var 2 (R := RInt) (f := fun (s : Jar × Int) => l_rest14))) (te_var 1 (R := RInt) (f := fun (s : Jar × Int) => y.1)))))))
  (ts_set (i := 5) (R := RInt) (ps_set sc_l_draw.nd rfl (Or.inl rfl) (te_mod (te_toint (bp_int T.z_int) (te_pow (te_add (te_add (te_mod (te_toint (bp_int T.z_int) (te_var 4 (R := RInt) (f := fun (s : Jar × Int) => s.2))) te_int) (te_mul te_int (te_var 3 (R := RInt) (f := fun (s : Jar × Int) => l_at8)))) te_int) te_int)) te_int)) (fun l_mixed15 =>
  (ts_set (i := 5) (R := RInt) (ps_set sc_l_draw.nd rfl (Or.inl rfl) (te_mod (te_toint (bp_int T.z_int) (te_pow (te_add (te_add (te_mul (te_var 5 (R := RInt) (f := fun (s : Jar × Int) => l_mixed15)) (te_add (te_mul te_int (te_var 3 (R := RInt) (f := fun (s : Jar × Int) => l_at8))) te_int)) (te_mul (te_mul te_int (te_var 3 (R := RInt) (f := fun (s : Jar × Int) => l_at8))) (te_var 3 (R := RInt) (f := fun (s : Jar × Int) => l_at8)))) te_int) te_int)) te_int)) (fun l_mixed16 =>
  (ts_retB 0 (fun (s : Jar × Int) => s.1) (te_mod (te_toint (bp_int T.z_int) (te_fdiv (te_var 5 (R := RInt) (f := fun (s : Jar × Int) => l_mixed16)) te_int)) (te_var 1 (R := RInt) (f := fun (s : Jar × Int) => y.1))))))))))))))))) (by intro _ h; delta m_l_draw at h; exact h)
@[irreducible] def m_l_words (p_l_kinds : (List Int)) (p_l_most : Int) (Kf : (List (List Int)) → Prop) : Prop :=
  (([] : List Int).length ≤ 1000000 ∧ ([([] : List Int)].length ≤ 1000000 ∧ (([] : List Int).length ≤ 1000000 ∧ ([([] : List Int)].length ≤ 1000000 ∧ (p_l_kinds.length ≤ 1000000 ∧ mMap p_l_kinds (fun (x26 : Int) K28 => K28 (-x26)) fun ys43 => (p_l_kinds.length + ys43.length ≤ 1000000 ∧ (fun (q29 : (List (List Int)) × (List (List Int)) × (List Int)) => ((-(2 ^ 62) ≤ p_l_most ∧ p_l_most < 2 ^ 62) ∧ mFor (rangeL 0 p_l_most) (fun (l_turn30 : Int) (s41 : (List (List Int)) × (List (List Int))) Kn31 => (([] : List (List Int)).length ≤ 1000000 ∧ mFor s41.2 (fun (l_word32 : (List Int)) (s39 : (List (List Int)) × (List (List Int)) × (List (List Int))) Kn33 => (q29.2.2.length ≤ 1000000 ∧ mMapIf q29.2.2 (fun (x34 : Int) K37 => mB (fun (K45 : Bool → Unit → Prop) => (([] : List Int).length ≤ 1000000 ∧ (if (decide (l_word32 = ([] : List Int))) = true then K45 true () else (∃ v48, pyAt l_word32 (-(1 : Int)) = some v48 ∧ K45 (!decide (x34 = (-v48))) ())))) (fun b46 _ => K37 b46)) (fun (x34 : Int) K36 => ([x34].length ≤ 1000000 ∧ (l_word32.length + [x34].length ≤ 1000000 ∧ K36 (l_word32 ++ [x34])))) fun ys44 => (s39.2.2.length + ys44.length ≤ 1000000 ∧ Kn33 (s39.1, s39.2.1, (s39.2.2 ++ ys44))))) (s41.1, s41.2, ([] : List (List Int))) (fun (s40 : (List (List Int)) × (List (List Int)) × (List (List Int))) =>
  (s40.1.length + s40.2.2.length ≤ 1000000 ∧ (fun (q38 : (List (List Int)) × (List (List Int))) => Kn31 (q38.1, q38.2)) ((s40.1 ++ s40.2.2), s40.2.2))))) (q29.1, q29.2.1) (fun (s42 : (List (List Int)) × (List (List Int))) =>
  Kf s42.1))) ([([] : List Int)], [([] : List Int)], (p_l_kinds ++ ys43))))))))
theorem ok_l_words (T : Tx P K mg) : FnOk P w K mg base CX0 1 T.a_l_words T.d_l_words ["_law_kinds", "_law_most"] (spP (acons (RLst RInt) (acons RInt anil)) (RLst RTi) (fun (y : (List Int) × Int × Unit) Kf => m_l_words y.1 y.2.1 Kf)) :=
  fnP T.F_l_words sc_l_words (fun _ => rfl) fun cdv A outer s H E hr y Kf B => ts_use (
  (ts_mul (fk := (fun x => (x.1, x.2.1, x.2.2.1))) (mk := (fun (s : Unit) x => ())) (Γ' := (fun q29 (s : Unit) => [.im ((RLst RInt) y.1), .im (RInt y.2.1), .im ((RLst RTi) q29.1), .im ((RLst RTi) q29.2.1), .im ((RLst RInt) q29.2.2), .any, .any, .any, .any, .any])) (ps_mul3 (ps_par3 (i := 2) (j := 3) (l := 4) rfl sc_l_words.nd rfl rfl rfl (by decide) (by decide) (by decide) rfl rfl rfl (tm_e (R := (RLst RTi)) (te_lst (tn_list (R := RTi) (tl_cons (te_tupleTi tl_nil) tl_nil))) (tm_e (R := (RLst RTi)) (te_lst (tn_list (R := RTi) (tl_cons (te_tupleTi tl_nil) tl_nil))) (tm_e (R := (RLst RInt)) (te_lst (tn_cat (te_var 0 (R := (RLst RInt)) (f := fun (s : Unit) => y.1)) (te_lst (tn_map sc_l_words.nd (ti_list (K := K) (te_l (te_var 0 (R := (RLst RInt)) (f := fun (s : Unit) => y.1)))) (blkOk_by (own := [("_law_kind", 8)]) (N := ["_law_kinds", "_law_most", "_law_found", "_law_longest", "_law_letters", "_law_turn", "_law_longer", "_law_word", "_law_kind", "_law_letter"]) (sc := defScope s_l_words) (by decide +kernel)) (fun _ _ _ _ _ => (pg_name (i := 8) sc_l_words.nd rfl (Or.inl rfl))) (tg_name 8) (fun s27 x26 B' s H C cl fp => (te_neg (te_var 8 (R := RInt) (f := fun (s : Unit) => x26)))))))) tm_nil))) (by rfl)) tM_mono) (fun _ _ => rfl) (fun _ => rfl) (fun q29 =>
  (ts_for (Γh := fun s : (List (List Int)) × (List (List Int)) => [.im ((RLst RInt) y.1), .im (RInt y.2.1), .im ((RLst RTi) s.1), .im ((RLst RTi) s.2), .im ((RLst RInt) q29.2.2), .any, .any, .any, .any, .any]) (fun (s : Unit) => (q29.1, q29.2.1)) (fun s => (.same (.same (.same (.same (.same (.drop (.drop (.drop (.drop (.drop .nil))))))))))) (ti_range1 T.z_range (te_var 1 (R := RInt) (f := fun (s : Unit) => y.2.1))) (pg_name (i := 5) sc_l_words.nd rfl (Or.inl rfl)) (tg_name 5)
  (fun q l_turn30 Kn31 => (ts_setO (i := 6) (Γ' := fun (s : (List (List Int)) × (List (List Int)) × (List (List Int))) => [.im ((RLst RInt) y.1), .im (RInt y.2.1), .im ((RLst RTi) s.1), .im ((RLst RTi) s.2.1), .im ((RLst RInt) q29.2.2), .im (RInt l_turn30), .ow (OList RTi s.2.2), .any, .any, .any]) (mk := fun (s : (List (List Int)) × (List (List Int))) y => (s.1, s.2, y)) (ps_set sc_l_words.nd rfl (Or.inl rfl) (tn_list (R := RTi) tl_nil)) (fun _ _ => rfl)
  (ts_for (Γh := fun s : (List (List Int)) × (List (List Int)) × (List (List Int)) => [.im ((RLst RInt) y.1), .im (RInt y.2.1), .im ((RLst RTi) s.1), .im ((RLst RTi) s.2.1), .im ((RLst RInt) q29.2.2), .im (RInt l_turn30), .ow (OList RTi s.2.2), .any, .any, .any]) (fun (s : (List (List Int)) × (List (List Int)) × (List (List Int))) => (s.1, s.2.1, s.2.2)) (fun s => (.same (.same (.same (.same (.same (.same (.same (.drop (.drop (.drop .nil))))))))))) (ti_list (K := K) (te_l (te_var 3 (R := (RLst RTi)) (f := fun (s : (List (List Int)) × (List (List Int)) × (List (List Int))) => s.2.1)))) (pg_name (i := 7) sc_l_words.nd rfl (Or.inr rfl)) (tg_name 7)
  (fun q l_word32 Kn33 => (ts_expr (te_extendH 6 (fun (s : (List (List Int)) × (List (List Int)) × (List (List Int))) => s.2.2) (fun (s : (List (List Int)) × (List (List Int)) × (List (List Int))) t => (s.1, s.2.1, t)) (R := RTi) (te_lstSh (te_lst (tn_compIf sc_l_words.nd (ti_list (K := K) (te_l (te_var 4 (R := (RLst RInt)) (f := fun (s : (List (List Int)) × (List (List Int)) × (List (List Int))) => q29.2.2)))) (blkOk_by (own := [("_law_letter", 9)]) (N := ["_law_kinds", "_law_most", "_law_found", "_law_longest", "_law_letters", "_law_turn", "_law_longer", "_law_word", "_law_kind", "_law_letter"]) (sc := defScope s_l_words) (by decide +kernel)) (fun _ _ _ _ _ => (pg_name (i := 9) sc_l_words.nd rfl (Or.inl rfl))) (tg_name 9) (fun s35 x34 B' s H C cl fp => (tt_w (tw_or (tt_c (cr_eqD (K := K) rfl hr.units (dat_tup dat_int)) (te_ti (K := K) (te_var 7 (R := RTi) (f := fun (s : Unit) => l_word32))) (te_ti (K := K) (te_tupleTi tl_nil))) (tw_or1 (tt_c (cr_ne flat_int) (te_var 9 (R := RInt) (f := fun (s : Unit) => x34)) (te_neg (te_ixT (te_ti (K := K) (te_var 7 (R := RTi) (f := fun (s : Unit) => l_word32))) (te_neg te_int)))))))) (fun s35 x34 B' s H C cl fp => (te_catTi (te_var 7 (R := RTi) (f := fun (s : Unit) => l_word32)) (te_tupleTi (tl_cons (te_var 9 (R := RInt) (f := fun (s : Unit) => x34)) tl_nil))))))))
  (ts_end (Γj := fun s : (List (List Int)) × (List (List Int)) × (List (List Int)) => [.im ((RLst RInt) y.1), .im (RInt y.2.1), .im ((RLst RTi) s.1), .im ((RLst RTi) s.2.1), .im ((RLst RInt) q29.2.2), .im (RInt l_turn30), .ow (OList RTi s.2.2), .any, .any, .any]) (fun (s : (List (List Int)) × (List (List Int)) × (List (List Int))) => (s.1, s.2.1, s.2.2)) (fun s => (.same (.same (.same (.same (.same (.same (.same (.drop (.drop (.drop .nil))))))))))))))
  (ts_freeze 6 (Γ' := fun (s : (List (List Int)) × (List (List Int)) × (List (List Int))) => [.im ((RLst RInt) y.1), .im (RInt y.2.1), .im ((RLst RTi) s.1), .im ((RLst RTi) s.2.1), .im ((RLst RInt) q29.2.2), .im (RInt l_turn30), .im ((RLst RTi) s.2.2), .any, .any, .any]) (get := fun (s : (List (List Int)) × (List (List Int)) × (List (List Int))) => s.2.2) (fun _ => rfl) (fun _ => rfl)
  (ts_mul (fk := (fun x => (x.1, x.2.1))) (mk := (fun (s : (List (List Int)) × (List (List Int)) × (List (List Int))) x => (s.1, s.2.1, s.2.2))) (Γ' := (fun q38 (s : (List (List Int)) × (List (List Int)) × (List (List Int))) => [.im ((RLst RInt) y.1), .im (RInt y.2.1), .im ((RLst RTi) q38.1), .im ((RLst RTi) q38.2), .im ((RLst RInt) q29.2.2), .im (RInt l_turn30), .im ((RLst RTi) s.2.2), .any, .any, .any])) (ps_mul2 (ps_par (i := 2) (j := 3) rfl sc_l_words.nd rfl rfl (by decide) rfl rfl (tm_e (R := (RLst RTi)) (te_lst (tn_cat (te_var 2 (R := (RLst RTi)) (f := fun (s : (List (List Int)) × (List (List Int)) × (List (List Int))) => s.1)) (te_var 6 (R := (RLst RTi)) (f := fun (s : (List (List Int)) × (List (List Int)) × (List (List Int))) => s.2.2)))) (tm_e (R := (RLst RTi)) (te_var 6 (R := (RLst RTi)) (f := fun (s : (List (List Int)) × (List (List Int)) × (List (List Int))) => s.2.2)) tm_nil)) (by rfl)) tM_mono) (fun _ _ => rfl) (fun _ => rfl) (fun q38 =>
  (ts_end (Γj := fun s : (List (List Int)) × (List (List Int)) => [.im ((RLst RInt) y.1), .im (RInt y.2.1), .im ((RLst RTi) s.1), .im ((RLst RTi) s.2), .im ((RLst RInt) q29.2.2), .any, .any, .any, .any, .any]) (fun (s : (List (List Int)) × (List (List Int)) × (List (List Int))) => (q38.1, q38.2)) (fun s => (.same (.same (.same (.same (.same (.drop (.drop (.drop (.drop (.drop .nil))))))))))))))) PassesOwn.never)))
  (ts_ret (te_var 2 (R := (RLst RTi)) (f := fun (s : (List (List Int)) × (List (List Int))) => s.1))) PassesOwn.never)))) (by intro _ h; delta m_l_words at h; exact h)
@[irreducible] def m_l_contrary (p_l_letters : (List Int)) (Kf : (List Int) → Prop) : Prop :=
  (p_l_letters.reverse.length ≤ 1000000 ∧ mMap p_l_letters.reverse (fun (x52 : Int) K54 => K54 (-x52)) fun ys55 => Kf ys55)
theorem ok_l_contrary (T : Tx P K mg) : FnOk P w K mg base CX0 1 T.a_l_contrary T.d_l_contrary ["_law_letters"] (spP (acons RTi anil) (RLst RInt) (fun (y : (List Int) × Unit) Kf => m_l_contrary y.1 Kf)) :=
  fnP T.F_l_contrary sc_l_contrary (fun _ => rfl) fun cdv A outer s H E hr y Kf B => ts_use (
  (ts_ret (te_lst (tn_map sc_l_contrary.nd (ti_tup (K := K) (te_revT (te_ti (K := K) (te_var 0 (R := RTi) (f := fun (s : Unit) => y.1))))) (blkOk_by (own := [("_law_letter", 1)]) (N := ["_law_letters", "_law_letter"]) (sc := defScope s_l_contrary) (by decide +kernel)) (fun _ _ _ _ _ => (pg_name (i := 1) sc_l_contrary.nd rfl (Or.inl rfl))) (tg_name 1) (fun s53 x52 B' s H C cl fp => (te_neg (te_var 1 (R := RInt) (f := fun (s : Unit) => x52)))))))) (by intro _ h; delta m_l_contrary at h; exact h)
@[irreducible] def m_l_short (p_l_letters : (List Int)) (Kf : (List Int) → Prop) : Prop :=
  (([] : List Int).length ≤ 1000000 ∧ (fun (l_found61 : (List Int)) => mFor p_l_letters (fun (l_letter62 : Int) (s71 : (List Int)) Kn63 => mB (fun (K73 : Bool → (List Int) → Prop) => (([] : List Int).length ≤ 1000000 ∧ (if (!decide (s71 = ([] : List Int))) = true then (∃ v76, pyAt s71 (-(1 : Int)) = some v76 ∧ K73 (decide (v76 = (-l_letter62))) s71) else K73 false s71))) (fun b74 s75 => mIf b74 (fun (Kn66 : (List Int) → Prop) => (fun (l_found68 : (List Int)) => Kn66 l_found68) (pyCut s75 none (some (-(1 : Int))))) (fun (Kn67 : (List Int) → Prop) => ([l_letter62].length ≤ 1000000 ∧ (s75.length + [l_letter62].length ≤ 1000000 ∧ (fun (l_found69 : (List Int)) => Kn67 l_found69) (s75 ++ [l_letter62])))) (fun (s70 : (List Int)) =>
  Kn63 s70))) l_found61 (fun (s72 : (List Int)) =>
  Kf s72)) ([] : List Int))
theorem ok_l_short (T : Tx P K mg) : FnOk P w K mg base CX0 1 T.a_l_short T.d_l_short ["_law_letters"] (spP (acons (RLst RInt) anil) (RLst RInt) (fun (y : (List Int) × Unit) Kf => m_l_short y.1 Kf)) :=
  fnP T.F_l_short sc_l_short (fun _ => rfl) fun cdv A outer s H E hr y Kf B => ts_use (
  (ts_set (i := 1) (R := (RLst RInt)) (ps_set sc_l_short.nd rfl (Or.inl rfl) (te_lst (tn_list (R := RInt) tl_nil))) (fun l_found61 =>
  (ts_for (Γh := fun s : (List Int) => [.im ((RLst RInt) y.1), .im ((RLst RInt) s), .any]) (fun (s : Unit) => l_found61) (fun s => (.same (.same (.drop .nil)))) (ti_list (K := K) (te_l (te_var 0 (R := (RLst RInt)) (f := fun (s : Unit) => y.1)))) (pg_name (i := 2) sc_l_short.nd rfl (Or.inl rfl)) (tg_name 2)
  (fun q l_letter62 Kn63 => (ts_if (Γj := fun s : (List Int) => [.im ((RLst RInt) y.1), .im ((RLst RInt) s), .im (RInt l_letter62)]) (tt_w (tw_and (tt_c (cr_neD (K := K) rfl hr.units (dat_lst dat_int)) (te_var 1 (R := (RLst RInt)) (f := fun (s : (List Int)) => s)) (te_lst (tn_list (R := RInt) tl_nil))) (tw_and1 (tt_c (cr_eq flat_int) (te_ixL (te_l (te_var 1 (R := (RLst RInt)) (f := fun (s : (List Int)) => s))) (te_neg te_int)) (te_neg (te_var 2 (R := RInt) (f := fun (s : (List Int)) => l_letter62)))))))
  (fun Kn66 => (ts_set (i := 1) (R := (RLst RInt)) (ps_set sc_l_short.nd rfl (Or.inl rfl) (te_lst (tn_cut (te_l (te_var 1 (R := (RLst RInt)) (f := fun (s : (List Int)) => s))) to_none (to_some (te_neg te_int))))) (fun l_found68 =>
  (ts_end (Γj := fun s : (List Int) => [.im ((RLst RInt) y.1), .im ((RLst RInt) s), .im (RInt l_letter62)]) (fun (s : (List Int)) => l_found68) (fun s => (.same (.same (.same .nil))))))))
  (fun Kn67 => (ts_set (i := 1) (R := (RLst RInt)) (ps_set sc_l_short.nd rfl (Or.inl rfl) (te_lst (tn_cat (te_var 1 (R := (RLst RInt)) (f := fun (s : (List Int)) => s)) (te_lst (tn_list (R := RInt) (tl_cons (te_var 2 (R := RInt) (f := fun (s : (List Int)) => l_letter62)) tl_nil)))))) (fun l_found69 =>
  (ts_end (Γj := fun s : (List Int) => [.im ((RLst RInt) y.1), .im ((RLst RInt) s), .im (RInt l_letter62)]) (fun (s : (List Int)) => l_found69) (fun s => (.same (.same (.same .nil))))))))
  (ts_end (Γj := fun s : (List Int) => [.im ((RLst RInt) y.1), .im ((RLst RInt) s), .any]) (fun (s : (List Int)) => s) (fun s => (.same (.same (.drop .nil)))))))
  (ts_ret (te_var 1 (R := (RLst RInt)) (f := fun (s : (List Int)) => s))) PassesOwn.never)))) (by intro _ h; delta m_l_short at h; exact h)
@[irreducible] def m_l_powers (p_l_words_here : (List (List Int))) (Kf : (List ((List Int) × (List Int))) → Prop) : Prop :=
  mFor (enumL p_l_words_here) (fun (p50 : (Int × (List Int))) (s82 : (List ((List Int) × (List Int)))) Kn51 => m_l_contrary p50.2 fun r84 => ([p50.2, r84].length ≤ 1000000 ∧ mFor [p50.2, r84] (fun (l_part56 : (List Int)) (s80 : (List ((List Int) × (List Int)))) Kn57 => (([] : List Int).length ≤ 1000000 ∧ (fun (l_told58 : (List Int)) => ((-(2 ^ 62) ≤ (12 : Int) ∧ (12 : Int) < 2 ^ 62) ∧ mFor (rangeL 0 (12 : Int)) (fun (l_turn59 : Int) (s78 : (List ((List Int) × (List Int))) × (List Int)) Kn60 => (s78.2.length + l_part56.length ≤ 1000000 ∧ m_l_short (s78.2 ++ l_part56) fun r85 => (([] : List Int).length ≤ 1000000 ∧ ([p50.1].length ≤ 1000000 ∧ (((dget s78.1 r85).getD ([] : List Int)).length + [p50.1].length ≤ 1000000 ∧ (s78.1.length ≤ 1000000 ∧ Kn60 ((dput s78.1 r85 (((dget s78.1 r85).getD ([] : List Int)) ++ [p50.1])), r85))))))) (s80, l_told58) (fun (s79 : (List ((List Int) × (List Int))) × (List Int)) =>
  Kn57 s79.1))) ([] : List Int))) s82 (fun (s81 : (List ((List Int) × (List Int)))) =>
  Kn51 s81))) ([] : (List ((List Int) × (List Int)))) (fun (s83 : (List ((List Int) × (List Int)))) =>
  Kf s83)
theorem ok_l_powers (T : Tx P K mg) : FnOk P w K mg base CX0 2 T.a_l_powers T.d_l_powers ["_law_words_here"] (spP (acons (RLst RTi) anil) (RDict mkT (RLst RInt)) (fun (y : (List (List Int)) × Unit) Kf => m_l_powers y.1 Kf)) :=
  fnP T.F_l_powers sc_l_powers (fun _ => rfl) fun cdv A outer s H E hr y Kf B => ts_use (
  (ts_setW (i := 1) (O := ODict mkT (RLst RInt)) (Γ' := fun (s : (List ((List Int) × (List Int)))) => [.im ((RLst RTi) y.1), .ow (ODict mkT (RLst RInt) s), .any, .any, .any, .any, .any]) (mk := fun (s : Unit) y => y) (ps_set sc_l_powers.nd rfl (Or.inl rfl) (tw_dnewT (mkD := mkT) (R := (RLst RInt)) rfl)) (fun _ _ => rfl)
  (ts_for (Γh := fun s : (List ((List Int) × (List Int))) => [.im ((RLst RTi) y.1), .ow (ODict mkT (RLst RInt) s), .any, .any, .any, .any, .any]) (fun (s : (List ((List Int) × (List Int)))) => s) (fun s => (.same (.same (.drop (.drop (.drop (.drop (.drop .nil)))))))) (ti_enum T.z_enumerate (te_l (te_var 0 (R := (RLst RTi)) (f := fun (s : (List ((List Int) × (List Int)))) => y.1)))) (pg_tup rfl (pgs_cons (pg_name (i := 2) sc_l_powers.nd rfl (Or.inl rfl)) (pgs_cons (pg_name (i := 3) sc_l_powers.nd rfl (Or.inl rfl)) pgs_nil))) (tg_pair 2 3)
  (fun q p50 Kn51 => (ts_for (Γh := fun s : (List ((List Int) × (List Int))) => [.im ((RLst RTi) y.1), .ow (ODict mkT (RLst RInt) s), .im (RInt p50.1), .im (RTi p50.2), .any, .any, .any]) (fun (s : (List ((List Int) × (List Int)))) => s) (fun s => (.same (.same (.same (.same (.drop (.drop (.drop .nil)))))))) (ti_tup (K := K) (te_tuple (K := K) (R := (RLst RInt)) (tl_cons (te_lst (tn_tupList (bp_list T.z_list) (te_ti (K := K) (te_var 3 (R := RTi) (f := fun (s : (List ((List Int) × (List Int)))) => p50.2))))) (tl_cons (te_call (ok_l_contrary T) (hr.mono (by decide)) T.g_l_contrary T.F_l_contrary.kp T.b_l_contrary (ta_cons (te_var 3 (R := RTi) (f := fun (s : (List ((List Int) × (List Int)))) => p50.2)) ta_nil)) tl_nil)))) (pg_name (i := 4) sc_l_powers.nd rfl (Or.inl rfl)) (tg_name 4)
  (fun q l_part56 Kn57 => (ts_set (i := 5) (R := (RLst RInt)) (ps_set sc_l_powers.nd rfl (Or.inl rfl) (te_lst (tn_list (R := RInt) tl_nil))) (fun l_told58 =>
  (ts_for (Γh := fun s : (List ((List Int) × (List Int))) × (List Int) => [.im ((RLst RTi) y.1), .ow (ODict mkT (RLst RInt) s.1), .im (RInt p50.1), .im (RTi p50.2), .im ((RLst RInt) l_part56), .im ((RLst RInt) s.2), .any]) (fun (s : (List ((List Int) × (List Int)))) => (s, l_told58)) (fun s => (.same (.same (.same (.same (.same (.same (.drop .nil)))))))) (ti_range1 T.z_range te_int) (pg_name (i := 6) sc_l_powers.nd rfl (Or.inl rfl)) (tg_name 6)
  (fun q l_turn59 Kn60 => (ts_set (i := 5) (R := (RLst RInt)) (ps_set sc_l_powers.nd rfl (Or.inl rfl) (te_call (ok_l_short T) (hr.mono (by decide)) T.g_l_short T.F_l_short.kp T.b_l_short (ta_cons (te_lst (tn_cat (te_var 5 (R := (RLst RInt)) (f := fun (s : (List ((List Int) × (List Int))) × (List Int)) => s.2)) (te_var 4 (R := (RLst RInt)) (f := fun (s : (List ((List Int) × (List Int))) × (List Int)) => l_part56)))) ta_nil))) (fun l_told77 =>
  (ts_dput 1 (fun (s : (List ((List Int) × (List Int))) × (List Int)) => s.1) (fun (s : (List ((List Int) × (List Int))) × (List Int)) t => (t, s.2)) (te_lst (tn_cat (te_dget2O 1 (fun (s : (List ((List Int) × (List Int))) × (List Int)) => s.1) (te_tuple_lTi (bp_tuple T.z_tuple) (te_l (te_var 5 (R := (RLst RInt)) (f := fun (s : (List ((List Int) × (List Int))) × (List Int)) => l_told77)))) (te_lst (tn_list (R := RInt) tl_nil)) keyT (units1 hr)) (te_lst (tn_list (R := RInt) (tl_cons (te_var 2 (R := RInt) (f := fun (s : (List ((List Int) × (List Int))) × (List Int)) => p50.1)) tl_nil))))) (te_tuple_lTi (bp_tuple T.z_tuple) (te_l (te_var 5 (R := (RLst RInt)) (f := fun (s : (List ((List Int) × (List Int))) × (List Int)) => l_told77)))) keyT (units1 hr)
  (ts_end (Γj := fun s : (List ((List Int) × (List Int))) × (List Int) => [.im ((RLst RTi) y.1), .ow (ODict mkT (RLst RInt) s.1), .im (RInt p50.1), .im (RTi p50.2), .im ((RLst RInt) l_part56), .im ((RLst RInt) s.2), .any]) (fun (s : (List ((List Int) × (List Int))) × (List Int)) => (s.1, l_told77)) (fun s => (.same (.same (.same (.same (.same (.same (.drop .nil)))))))))))))
  (ts_end (Γj := fun s : (List ((List Int) × (List Int))) => [.im ((RLst RTi) y.1), .ow (ODict mkT (RLst RInt) s), .im (RInt p50.1), .im (RTi p50.2), .any, .any, .any]) (fun (s : (List ((List Int) × (List Int))) × (List Int)) => s.1) (fun s => (.same (.same (.same (.same (.drop (.drop (.drop .nil))))))))) PassesOwn.never))))
  (ts_end (Γj := fun s : (List ((List Int) × (List Int))) => [.im ((RLst RTi) y.1), .ow (ODict mkT (RLst RInt) s), .any, .any, .any, .any, .any]) (fun (s : (List ((List Int) × (List Int)))) => s) (fun s => (.same (.same (.drop (.drop (.drop (.drop (.drop .nil))))))))) PassesOwn.never))
  (ts_freezeW 1 (Γ' := fun (s : (List ((List Int) × (List Int)))) => [.im ((RLst RTi) y.1), .im ((RDict mkT (RLst RInt)) s), .any, .any, .any, .any, .any]) (get := fun (s : (List ((List Int) × (List Int)))) => s) frzD (fun _ => rfl) (fun _ => rfl)
  (ts_ret (te_var 1 (R := (RDict mkT (RLst RInt))) (f := fun (s : (List ((List Int) × (List Int)))) => s)))) PassesOwn.never))) (by intro _ h; delta m_l_powers at h; exact h)
@[irreducible] def m_l_are_of_one (p_l_known : (List ((List Int) × (List Int)))) (p_l_one : (List Int)) (p_l_other : (List Int)) (Kf : Bool → Prop) : Prop :=
  mB (fun (K95 : Bool → Unit → Prop) => (([] : List Int).length ≤ 1000000 ∧ (if (decide (p_l_one = ([] : List Int))) = true then K95 true () else (([] : List Int).length ≤ 1000000 ∧ K95 (decide (p_l_other = ([] : List Int))) ())))) (fun b96 _ => (if b96 = true then Kf true else
  (([] : List Int).length ≤ 1000000 ∧ (((dget p_l_known p_l_one).getD ([] : List Int)).length ≤ 1000000 ∧ mMapIf ((dget p_l_known p_l_one).getD ([] : List Int)) (fun (x91 : Int) K94 => (([] : List Int).length ≤ 1000000 ∧ K94 (memB x91 ((dget p_l_known p_l_other).getD ([] : List Int))))) (fun (x91 : Int) K93 => K93 x91) fun ys98 => (([] : List Int).length ≤ 1000000 ∧ Kf (!decide (ys98 = ([] : List Int))))))))
theorem ok_l_are_of_one (T : Tx P K mg) : FnOk P w K mg base CX0 1 T.a_l_are_of_one T.d_l_are_of_one ["_law_known", "_law_one", "_law_other"] (spP (acons (RDict mkT (RLst RInt)) (acons RTi (acons RTi anil))) RBool (fun (y : (List ((List Int) × (List Int))) × (List Int) × (List Int) × Unit) Kf => m_l_are_of_one y.1 y.2.1 y.2.2.1 Kf)) :=
  fnP T.F_l_are_of_one sc_l_are_of_one (fun _ => rfl) fun cdv A outer s H E hr y Kf B => ts_use (
  (ts_ifr (tt_w (tw_or (tt_c (cr_eqD (K := K) rfl hr.units (dat_tup dat_int)) (te_ti (K := K) (te_var 1 (R := RTi) (f := fun (s : Unit) => y.2.1))) (te_ti (K := K) (te_tupleTi tl_nil))) (tw_or1 (tt_c (cr_eqD (K := K) rfl hr.units (dat_tup dat_int)) (te_ti (K := K) (te_var 2 (R := RTi) (f := fun (s : Unit) => y.2.2.1))) (te_ti (K := K) (te_tupleTi tl_nil))))))
  (ts_ret te_bl)
  (ts_ret (te_c (cr_neD (K := K) rfl hr.units (dat_lst dat_int)) (te_lst (tn_compIf sc_l_are_of_one.nd (ti_list (K := K) (te_l (te_dget2 (te_var 0 (R := (RDict mkT (RLst RInt))) (f := fun (s : Unit) => y.1)) (te_var 1 (R := RTi) (f := fun (s : Unit) => y.2.1)) (te_lst (tn_list (R := RInt) tl_nil)) keyT (units1 hr)))) (blkOk_by (own := [("_law_number", 3)]) (N := ["_law_known", "_law_one", "_law_other", "_law_number"]) (sc := defScope s_l_are_of_one) (by decide +kernel)) (fun _ _ _ _ _ => (pg_name (i := 3) sc_l_are_of_one.nd rfl (Or.inl rfl))) (tg_name 3) (fun s92 x91 B' s H C cl fp => (tt_c (cr_in (K := K) rfl (units65 hr) dat_int) (te_var 3 (R := RInt) (f := fun (s : Unit) => x91)) (te_dget2 (te_var 0 (R := (RDict mkT (RLst RInt))) (f := fun (s : Unit) => y.1)) (te_var 2 (R := RTi) (f := fun (s : Unit) => y.2.2.1)) (te_lst (tn_list (R := RInt) tl_nil)) keyT (units1 hr)))) (fun s92 x91 B' s H C cl fp => (te_var 3 (R := RInt) (f := fun (s : Unit) => x91))))) (te_lst (tn_list (R := RInt) tl_nil)))))) (by intro _ h; delta m_l_are_of_one at h; exact h)
@[irreducible] def m_is_listed (p_value : (List Int)) (Kf : Bool → Prop) : Prop :=
  Kf true
theorem ok_is_listed (T : Tx P K mg) : FnOk P w K mg base CX0 1 T.a_is_listed T.d_is_listed ["value"] (spP (acons (RTup K RInt) anil) RBool (fun (y : (List Int) × Unit) Kf => m_is_listed y.1 Kf)) :=
  fnP T.F_is_listed sc_is_listed (fun _ => rfl) fun cdv A outer s H E hr y Kf B => ts_use (
  (ts_ret (te_isi2 (b := true) (bp_isi T.z_isinstance) ty_tup (te_var 0 (R := (RTup K RInt)) (f := fun (s : Unit) => y.1)) (bg_list T.z_list) (bg_tuple T.z_tuple) (kit2 (r1 := false) (r2 := true) (by decide +kernel) (by decide +kernel))))) (by intro _ h; delta m_is_listed at h; exact h)
@[irreducible] def m_is_integer (p_value : Int) (Kf : Bool → Prop) : Prop :=
  mB (fun (K101 : Bool → Unit → Prop) => (if true = true then K101 (!false) () else K101 false ())) (fun b102 _ => Kf b102)
theorem ok_is_integer (T : Tx P K mg) : FnOk P w K mg base CX0 1 T.a_is_integer T.d_is_integer ["value"] (spP (acons RInt anil) RBool (fun (y : Int × Unit) Kf => m_is_integer y.1 Kf)) :=
  fnP T.F_is_integer sc_is_integer (fun _ => rfl) fun cdv A outer s H E hr y Kf B => ts_use (
  (ts_ret (te_and (te_isi (b := true) (bp_isi T.z_isinstance) ty_int (te_var 0 (R := RInt) (f := fun (s : Unit) => y.1)) (bg_int T.z_int) (kit_ty (by decide +kernel))) (te_and1 (te_not (te_isi (b := false) (bp_isi T.z_isinstance) ty_int (te_var 0 (R := RInt) (f := fun (s : Unit) => y.1)) (bg_bool T.z_bool) (kit_ty (by decide +kernel)))))))) (by intro _ h; delta m_is_integer at h; exact h)
@[irreducible] def m_is_within (p_value : Int) (p_least : Int) (p_most : Int) (Kf : Bool → Prop) : Prop :=
  m_is_integer p_value fun r104 => (if (!r104) = true then Kf false else
  mB (fun (K105 : Bool → Unit → Prop) => mB (fun (K108 : Bool → Unit → Prop) => (if (false) = true then K108 true () else K108 (decide (p_least ≤ p_value)) ())) (fun b109 _ => (if b109 = true then mB (fun (K111 : Bool → Unit → Prop) => (if (false) = true then K111 true () else K111 (decide (p_value ≤ p_most)) ())) (fun b112 _ => K105 b112 ()) else K105 false ()))) (fun b106 _ => Kf b106))
theorem ok_is_within (T : Tx P K mg) : FnOk P w K mg base CX0 2 T.a_is_within T.d_is_within ["value", "least", "most"] (spP (acons RInt (acons RInt (acons RInt anil))) RBool (fun (y : Int × Int × Int × Unit) Kf => m_is_within y.1 y.2.1 y.2.2.1 Kf)) :=
  fnP T.F_is_within sc_is_within (fun _ => rfl) fun cdv A outer s H E hr y Kf B => ts_use (
  (ts_ifr (tt_not (tt_val (te_call (ok_is_integer T) (hr.mono (by decide)) T.g_is_integer T.F_is_integer.kp T.b_is_integer (ta_cons (te_var 0 (R := RInt) (f := fun (s : Unit) => y.1)) ta_nil))))
  (ts_ret te_bl)
  (ts_ret (te_and (te_or (te_c (cr_isNo nn_int) (te_var 1 (R := RInt) (f := fun (s : Unit) => y.2.1)) te_non) (te_and1 (te_c cr_ge (te_var 0 (R := RInt) (f := fun (s : Unit) => y.1)) (te_var 1 (R := RInt) (f := fun (s : Unit) => y.2.1))))) (te_and1 (te_or (te_c (cr_isNo nn_int) (te_var 2 (R := RInt) (f := fun (s : Unit) => y.2.2.1)) te_non) (te_and1 (te_c cr_le (te_var 0 (R := RInt) (f := fun (s : Unit) => y.1)) (te_var 2 (R := RInt) (f := fun (s : Unit) => y.2.2.1)))))))))) (by intro _ h; delta m_is_within at h; exact h)
@[irreducible] def m_is_letter (p_value : Int) (Kf : Bool → Prop) : Prop :=
  mB (fun (K114 : Bool → Unit → Prop) => m_is_within p_value (-(26 : Int)) (26 : Int) fun r117 => (if r117 = true then K114 (!decide (p_value = (0 : Int))) () else K114 false ())) (fun b115 _ => Kf b115)
theorem ok_is_letter (T : Tx P K mg) : FnOk P w K mg base CX0 3 T.a_is_letter T.d_is_letter ["value"] (spP (acons RInt anil) RBool (fun (y : Int × Unit) Kf => m_is_letter y.1 Kf)) :=
  fnP T.F_is_letter sc_is_letter (fun _ => rfl) fun cdv A outer s H E hr y Kf B => ts_use (
  (ts_ret (te_and (te_call (ok_is_within T) (hr.mono (by decide)) T.g_is_within T.F_is_within.kp T.b_is_within (ta_cons (te_var 0 (R := RInt) (f := fun (s : Unit) => y.1)) (ta_cons (te_neg (te_globI T.c_LAST_KIND)) (ta_cons (te_globI T.c_LAST_KIND) ta_nil)))) (te_and1 (te_c (cr_ne flat_int) (te_var 0 (R := RInt) (f := fun (s : Unit) => y.1)) te_int))))) (by intro _ h; delta m_is_letter at h; exact h)
@[irreducible] def m_are_letters (p_value : (List Int)) (Kf : Bool → Prop) : Prop :=
  mB (fun (K119 : Bool → Unit → Prop) => m_is_listed p_value fun r122 => (if r122 = true then (p_value.length ≤ 1000000 ∧ mMap p_value (fun (x99 : Int) K118 => m_is_letter x99 fun r124 => K118 r124) fun ys123 => K119 (ys123.all id) ()) else K119 false ())) (fun b120 _ => Kf b120)
theorem ok_are_letters (T : Tx P K mg) : FnOk P w K mg base CX0 4 T.a_are_letters T.d_are_letters ["value"] (spP (acons (RTup K RInt) anil) RBool (fun (y : (List Int) × Unit) Kf => m_are_letters y.1 Kf)) :=
  fnP T.F_are_letters sc_are_letters (fun _ => rfl) fun cdv A outer s H E hr y Kf B => ts_use (
  (ts_ret (te_and (te_call (ok_is_listed T) (hr.mono (by decide)) T.g_is_listed T.F_is_listed.kp T.b_is_listed (ta_cons (te_var 0 (R := (RTup K RInt)) (f := fun (s : Unit) => y.1)) ta_nil)) (te_and1 (te_all (bp_all T.z_all) (te_known (K := K) (tn_map sc_are_letters.nd (ti_tup (K := K) (te_var 0 (R := (RTup K RInt)) (f := fun (s : Unit) => y.1))) (blkOk_by (own := [("each", 1)]) (N := ["value", "each"]) (sc := defScope s_are_letters) (by decide +kernel)) (fun _ _ _ _ _ => (pg_name (i := 1) sc_are_letters.nd rfl (Or.inl rfl))) (tg_name 1) (fun s100 x99 B' s H C cl fp => (te_call (ok_is_letter T) (hr.mono (by decide)) T.g_is_letter T.F_is_letter.kp T.b_is_letter (ta_cons (te_var 1 (R := RInt) (f := fun (s : Unit) => x99)) ta_nil)))))))))) (by intro _ h; delta m_are_letters at h; exact h)
@[irreducible] def m_need_few (p_many : Int) (Kf : Unit → Prop) : Prop :=
  (if (decide ((500 : Int) < p_many)) = true then False else
  Kf ())
theorem ok_need_few (T : Tx P K mg) : FnOk P w K mg base CX0 1 T.a_need_few T.d_need_few ["many"] (spP (acons RInt anil) RNon (fun (y : Int × Unit) Kf => m_need_few y.1 Kf)) :=
  fnP T.F_need_few sc_need_few (fun _ => rfl) fun cdv A outer s H E hr y Kf B => ts_use (
  (ts_ifr (tt_c cr_gt (te_var 0 (R := RInt) (f := fun (s : Unit) => y.1)) (te_globI T.c_MOST_LETTERS))
  ts_never
  ts_fall)) (by intro _ h; delta m_need_few at h; exact h)
@[irreducible] def m_are_short (p_letters : (List Int)) (Kf : Bool → Prop) : Prop :=
  ((List.zip p_letters (pyCut p_letters (some (1 : Int)) none)).length ≤ 1000000 ∧ mMap (List.zip p_letters (pyCut p_letters (some (1 : Int)) none)) (fun (x131 : (Int × Int)) K133 => K133 (!decide (x131.1 = (-x131.2)))) fun ys134 => Kf (ys134.all id))
theorem ok_are_short (T : Tx P K mg) : FnOk P w K mg base CX0 1 T.a_are_short T.d_are_short ["letters"] (spP (acons (RTup K RInt) anil) RBool (fun (y : (List Int) × Unit) Kf => m_are_short y.1 Kf)) :=
  fnP T.F_are_short sc_are_short (fun _ => rfl) fun cdv A outer s H E hr y Kf B => ts_use (
  (ts_ret (te_all (bp_all T.z_all) (te_known (K := K) (tn_map sc_are_short.nd (ti_zipT (K := K) T.z_zip (te_var 0 (R := (RTup K RInt)) (f := fun (s : Unit) => y.1)) (te_cutT (te_var 0 (R := (RTup K RInt)) (f := fun (s : Unit) => y.1)) (to_some te_int) to_none)) (blkOk_by (own := [("one", 1), ("other", 2)]) (N := ["letters", "one", "other"]) (sc := defScope s_are_short) (by decide +kernel)) (fun _ _ _ _ _ => (pg_tup rfl (pgs_cons (pg_name (i := 1) sc_are_short.nd rfl (Or.inl rfl)) (pgs_cons (pg_name (i := 2) sc_are_short.nd rfl (Or.inl rfl)) pgs_nil)))) (tg_pair 1 2) (fun s132 x131 B' s H C cl fp => (te_c (cr_ne flat_int) (te_var 1 (R := RInt) (f := fun (s : Unit) => x131.1)) (te_neg (te_var 2 (R := RInt) (f := fun (s : Unit) => x131.2)))))))))) (by intro _ h; delta m_are_short at h; exact h)
@[irreducible] def m_rounded_of (p_letters : (List Int)) (Kf : (List Int) → Prop) : Prop :=
  (fun (q136 : Int × Int) => mWhile (fun (s141 : Int) K142 => mB (fun (K143 : Bool → Int → Prop) => (if (decide (s141 < ((q136.1 - (1 : Int)) - s141))) = true then (∃ v146, pyAt p_letters s141 = some v146 ∧ (∃ v147, pyAt p_letters ((q136.1 - (1 : Int)) - s141) = some v147 ∧ K143 (decide (v146 = (-v147))) s141)) else K143 false s141)) (fun b144 s145 => K142 b144 s145)) (fun (s139 : Int) Kn137 => (fun (at138 : Int) => Kn137 at138) (s139 + (1 : Int))) q136.2 (fun (s140 : Int) =>
  Kf (pyCut p_letters (some s140) (some (q136.1 - s140))))) ((p_letters.length : Int), (0 : Int))
theorem ok_rounded_of (T : Tx P K mg) : FnOk P w K mg base CX0 1 T.a_rounded_of T.d_rounded_of ["letters"] (spP (acons (RTup K RInt) anil) (RTup K RInt) (fun (y : (List Int) × Unit) Kf => m_rounded_of y.1 Kf)) :=
  fnP T.F_rounded_of sc_rounded_of (fun _ => rfl) fun cdv A outer s H E hr y Kf B => ts_use (
  (ts_mul (fk := (fun x => (x.1, x.2.1))) (mk := (fun (s : Unit) x => ())) (Γ' := (fun q136 (s : Unit) => [.im ((RTup K RInt) y.1), .im (RInt q136.1), .im (RInt q136.2)])) (ps_mul2 (ps_par (i := 1) (j := 2) rfl sc_rounded_of.nd rfl rfl (by decide) rfl rfl (tm_e (R := RInt) (te_len (bp_len T.z_len) lens_tup (te_var 0 (R := (RTup K RInt)) (f := fun (s : Unit) => y.1))) (tm_e (R := RInt) te_int tm_nil)) (by rfl)) tM_mono) (fun _ _ => rfl) (fun _ => rfl) (fun q136 =>
  (ts_while (Γh := fun s : Int => [.im ((RTup K RInt) y.1), .im (RInt q136.1), .im (RInt s)]) (fun (s : Unit) => q136.2) (fun s => (.same (.same (.same .nil)))) (tt_w (tw_and (tt_c cr_lt (te_var 2 (R := RInt) (f := fun (s : Int) => s)) (te_sub (te_sub (te_var 1 (R := RInt) (f := fun (s : Int) => q136.1)) te_int) (te_var 2 (R := RInt) (f := fun (s : Int) => s)))) (tw_and1 (tt_c (cr_eq flat_int) (te_ixT (te_var 0 (R := (RTup K RInt)) (f := fun (s : Int) => y.1)) (te_var 2 (R := RInt) (f := fun (s : Int) => s))) (te_neg (te_ixT (te_var 0 (R := (RTup K RInt)) (f := fun (s : Int) => y.1)) (te_sub (te_sub (te_var 1 (R := RInt) (f := fun (s : Int) => q136.1)) te_int) (te_var 2 (R := RInt) (f := fun (s : Int) => s)))))))))
  (fun Kn137 => (ts_set (i := 2) (R := RInt) (ps_set sc_rounded_of.nd rfl (Or.inl rfl) (te_add (te_var 2 (R := RInt) (f := fun (s : Int) => s)) te_int)) (fun at138 =>
  (ts_end (Γj := fun s : Int => [.im ((RTup K RInt) y.1), .im (RInt q136.1), .im (RInt s)]) (fun (s : Int) => at138) (fun s => (.same (.same (.same .nil))))))))
  (ts_ret (te_cutT (te_var 0 (R := (RTup K RInt)) (f := fun (s : Int) => y.1)) (to_some (te_var 2 (R := RInt) (f := fun (s : Int) => s))) (to_some (te_sub (te_var 1 (R := RInt) (f := fun (s : Int) => q136.1)) (te_var 2 (R := RInt) (f := fun (s : Int) => s)))))) PassesOwn.never)))) (by intro _ h; delta m_rounded_of at h; exact h)
structure D_Word where
  letters : (List Int)
  length : Int
  kinds : (List Int)
  is_short : Bool
  is_short_round : Bool
deriving DecidableEq
def fl_Word (K : PySem.W.Frag) (x : D_Word) : List (Str × Pd) := [("letters", (RTup K RInt) x.letters), ("length", RInt x.length), ("kinds", (RTup K RInt) x.kinds), ("is_short", RBool x.is_short), ("is_short_round", RBool x.is_short_round)]
def R_Word (T : Tx P K mg) : D_Word → Pd := fun x => RIns T.C_Word (fl_Word K x)
theorem fd_Word_letters (T : Tx P K mg) : FldR (R_Word T) T.C_Word "letters" (RTup K RInt) (fun x : D_Word => x.letters) := fldR (fl := fun x => fl_Word K x) (fun _ => rfl)
theorem fd_Word_length (T : Tx P K mg) : FldR (R_Word T) T.C_Word "length" RInt (fun x : D_Word => x.length) := fldR (fl := fun x => fl_Word K x) (fun _ => rfl)
theorem fd_Word_kinds (T : Tx P K mg) : FldR (R_Word T) T.C_Word "kinds" (RTup K RInt) (fun x : D_Word => x.kinds) := fldR (fl := fun x => fl_Word K x) (fun _ => rfl)
theorem fd_Word_is_short (T : Tx P K mg) : FldR (R_Word T) T.C_Word "is_short" RBool (fun x : D_Word => x.is_short) := fldR (fl := fun x => fl_Word K x) (fun _ => rfl)
theorem fd_Word_is_short_round (T : Tx P K mg) : FldR (R_Word T) T.C_Word "is_short_round" RBool (fun x : D_Word => x.is_short_round) := fldR (fl := fun x => fl_Word K x) (fun _ => rfl)
@[irreducible] def m_Word___init__ (p_letters : (List Int)) (Kf : D_Word → Prop) : Prop :=
  m_are_letters p_letters fun r149 => (if (!r149) = true then False else
  m_need_few (p_letters.length : Int) fun r150 => (fun (length126 : Int) => (p_letters.length ≤ 4000 ∧ mMap p_letters (fun (x127 : Int) K129 => K129 (x127.natAbs : Int)) fun ys151 => ((sortU ys151).length < 64 ∧ (fun (kinds130 : (List Int)) => m_are_short p_letters fun r152 => mB (fun (K153 : Bool → Unit → Prop) => (if r152 = true then m_rounded_of p_letters fun r156 => K153 (decide (r156 = p_letters)) () else K153 false ())) (fun b154 _ => Kf (⟨p_letters, length126, kinds130, r152, b154⟩ : D_Word))) (sortU ys151)))) (p_letters.length : Int))
theorem ok_Word___init__ (T : Tx P K mg) : FnOk P w K mg base CX0 5 T.a_Word___init__ T.d_Word___init__ ["self", "letters"] (spI T.C_Word (acons (RTup K RInt) anil) (R_Word T) (fun (y : (List Int) × Unit) Kf => m_Word___init__ y.1 Kf)) :=
  fnI T.F_Word___init__ sc_Word___init__ (fun _ => rfl) fun cdv A outer s H E hr a y Kf B => ts_use (
  (ts_ifr (tt_not (tt_val (te_call (ok_are_letters T) (hr.mono (by decide)) T.g_are_letters T.F_are_letters.kp T.b_are_letters (ta_cons (te_var 1 (R := (RTup K RInt)) (f := fun (s : Unit) => y.1)) ta_nil))))
  ts_never
  (ts_expr (te_call (ok_need_few T) (hr.mono (by decide)) T.g_need_few T.F_need_few.kp T.b_need_few (ta_cons (te_len (bp_len T.z_len) lens_tup (te_var 1 (R := (RTup K RInt)) (f := fun (s : Unit) => y.1))) ta_nil))
  (ts_self (i := 0) (fl := fun (s : Unit) => []) (te_tuple_t (bp_tuple T.z_tuple) (te_var 1 (R := (RTup K RInt)) (f := fun (s : Unit) => y.1))) T.cls_Word T.na_Word_letters (fun letters125 =>
  (ts_self (i := 0) (fl := fun (s : Unit) => [("letters", (RTup K RInt) letters125)]) (te_len (bp_len T.z_len) lens_tup (te_self (a := a) (i := 0) (R := (RTup K RInt)) (fl := fun (s : Unit) => [("letters", (RTup K RInt) letters125)]) (f := fun (s : Unit) => letters125) T.cls_Word T.na_Word_letters (fun _ => rfl) (fun _ => rfl))) T.cls_Word T.na_Word_length (fun length126 =>
  (ts_self (i := 0) (fl := fun (s : Unit) => [("letters", (RTup K RInt) letters125), ("length", RInt length126)]) (te_tuple_l (bp_tuple T.z_tuple) (te_known (K := K) (tn_sortedSet (bp_sorted T.z_sorted) (te_setI sc_Word___init__.nd (ti_tup (K := K) (te_self (a := a) (i := 0) (R := (RTup K RInt)) (fl := fun (s : Unit) => [("letters", (RTup K RInt) letters125), ("length", RInt length126)]) (f := fun (s : Unit) => letters125) T.cls_Word T.na_Word_letters (fun _ => rfl) (fun _ => rfl))) (blkOk_by (own := [("letter", 2)]) (N := ["self", "letters", "letter"]) (sc := defScope s_Word___init__) (by decide +kernel)) (fun _ _ _ _ _ => (pg_name (i := 2) sc_Word___init__.nd rfl (Or.inl rfl))) (tg_name 2) (fun s128 x127 B' s H C cl fp => (te_abs (bp_abs T.z_abs) (te_var 2 (R := RInt) (f := fun (s : Unit) => x127)))))))) T.cls_Word T.na_Word_kinds (fun kinds130 =>
  (ts_self (i := 0) (fl := fun (s : Unit) => [("letters", (RTup K RInt) letters125), ("length", RInt length126), ("kinds", (RTup K RInt) kinds130)]) (te_call (ok_are_short T) (hr.mono (by decide)) T.g_are_short T.F_are_short.kp T.b_are_short (ta_cons (te_self (a := a) (i := 0) (R := (RTup K RInt)) (fl := fun (s : Unit) => [("letters", (RTup K RInt) letters125), ("length", RInt length126), ("kinds", (RTup K RInt) kinds130)]) (f := fun (s : Unit) => letters125) T.cls_Word T.na_Word_letters (fun _ => rfl) (fun _ => rfl)) ta_nil)) T.cls_Word T.na_Word_is_short (fun is_short135 =>
  (ts_self (i := 0) (fl := fun (s : Unit) => [("letters", (RTup K RInt) letters125), ("length", RInt length126), ("kinds", (RTup K RInt) kinds130), ("is_short", RBool is_short135)]) (te_and (te_self (a := a) (i := 0) (R := RBool) (fl := fun (s : Unit) => [("letters", (RTup K RInt) letters125), ("length", RInt length126), ("kinds", (RTup K RInt) kinds130), ("is_short", RBool is_short135)]) (f := fun (s : Unit) => is_short135) T.cls_Word T.na_Word_is_short (fun _ => rfl) (fun _ => rfl)) (te_and1 (te_c (cr_eqD (K := K) rfl hr.units (dat_tup dat_int)) (te_call (ok_rounded_of T) (hr.mono (by decide)) T.g_rounded_of T.F_rounded_of.kp T.b_rounded_of (ta_cons (te_self (a := a) (i := 0) (R := (RTup K RInt)) (fl := fun (s : Unit) => [("letters", (RTup K RInt) letters125), ("length", RInt length126), ("kinds", (RTup K RInt) kinds130), ("is_short", RBool is_short135)]) (f := fun (s : Unit) => letters125) T.cls_Word T.na_Word_letters (fun _ => rfl) (fun _ => rfl)) ta_nil)) (te_self (a := a) (i := 0) (R := (RTup K RInt)) (fl := fun (s : Unit) => [("letters", (RTup K RInt) letters125), ("length", RInt length126), ("kinds", (RTup K RInt) kinds130), ("is_short", RBool is_short135)]) (f := fun (s : Unit) => letters125) T.cls_Word T.na_Word_letters (fun _ => rfl) (fun _ => rfl))))) T.cls_Word T.na_Word_is_short_round (fun is_short_round148 =>
  (ts_selfEnd (i := 0) (fl := fun (s : Unit) => [("letters", (RTup K RInt) letters125), ("length", RInt length126), ("kinds", (RTup K RInt) kinds130), ("is_short", RBool is_short135), ("is_short_round", RBool is_short_round148)]) (flr := fun x => fl_Word K x) (fun (s : Unit) => (⟨letters125, length126, kinds130, is_short135, is_short_round148⟩ : D_Word)) (fun _ => rfl) (fun _ => rfl))) (hl := fun _ => ⟨rfl, by show 4 < 1000; decide⟩))) (hl := fun _ => ⟨rfl, by show 3 < 1000; decide⟩))) (hl := fun _ => ⟨rfl, by show 2 < 1000; decide⟩))) (hl := fun _ => ⟨rfl, by show 1 < 1000; decide⟩))) (hl := fun _ => ⟨rfl, by show 0 < 1000; decide⟩))))) (by intro _ h; delta m_Word___init__ at h; exact h)
@[irreducible] def m_need_word (p_value : D_Word) (p_part : Str) (Kf : Unit → Prop) : Prop :=
  (if (!true) = true then False else
  Kf ())
theorem ok_need_word (T : Tx P K mg) : FnOk P w K mg base CX0 1 T.a_need_word T.d_need_word ["value", "part"] (spP (acons (R_Word T) (acons RStr anil)) RNon (fun (y : D_Word × Str × Unit) Kf => m_need_word y.1 y.2.1 Kf)) :=
  fnP T.F_need_word sc_need_word (fun _ => rfl) fun cdv A outer s H E hr y Kf B => ts_use (
  (ts_ifr (tt_not (tt_val (te_isi (b := true) (bp_isi T.z_isinstance) (ty_ins T.isc_Word) (te_var 0 (R := (R_Word T)) (f := fun (s : Unit) => y.1)) (pcl_own T.g_Word) T.isc_Word.me)))
  ts_never
  ts_fall)) (by intro _ h; delta m_need_word at h; exact h)
@[irreducible] def m_shortened_of (p_letters : (List Int)) (Kf : (List Int) → Prop) : Prop :=
  (([] : List Int).length ≤ 1000000 ∧ mFor p_letters (fun (letter158 : Int) (s163 : (List Int)) Kn159 => mB (fun (K165 : Bool → (List Int) → Prop) => (if (!s163.isEmpty) = true then (∃ v168, pyAt s163 (-(1 : Int)) = some v168 ∧ K165 (decide (v168 = (-letter158))) s163) else K165 false s163)) (fun b166 s167 => mIf b166 (fun (Kn160 : (List Int) → Prop) => (∃ v169, s167[s167.length - 1]? = some v169 ∧ Kn160 s167.dropLast)) (fun (Kn161 : (List Int) → Prop) => (s167.length ≤ 1000000 ∧ Kn161 (s167 ++ [letter158]))) (fun (s162 : (List Int)) =>
  Kn159 s162))) ([] : List Int) (fun (s164 : (List Int)) =>
  Kf s164))
theorem ok_shortened_of (T : Tx P K mg) : FnOk P w K mg base CX0 1 T.a_shortened_of T.d_shortened_of ["letters"] (spP (acons (RTup K RInt) anil) (RTup K RInt) (fun (y : (List Int) × Unit) Kf => m_shortened_of y.1 Kf)) :=
  fnP T.F_shortened_of sc_shortened_of (fun _ => rfl) fun cdv A outer s H E hr y Kf B => ts_use (
  (ts_setO (i := 1) (Γ' := fun (s : (List Int)) => [.im ((RTup K RInt) y.1), .ow (OList RInt s), .any]) (mk := fun (s : Unit) y => y) (ps_set sc_shortened_of.nd rfl (Or.inl rfl) (tn_list (R := RInt) tl_nil)) (fun _ _ => rfl)
  (ts_for (Γh := fun s : (List Int) => [.im ((RTup K RInt) y.1), .ow (OList RInt s), .any]) (fun (s : (List Int)) => s) (fun s => (.same (.same (.drop .nil)))) (ti_tup (K := K) (te_var 0 (R := (RTup K RInt)) (f := fun (s : (List Int)) => y.1))) (pg_name (i := 2) sc_shortened_of.nd rfl (Or.inl rfl)) (tg_name 2)
  (fun q letter158 Kn159 => (ts_if (Γj := fun s : (List Int) => [.im ((RTup K RInt) y.1), .ow (OList RInt s), .im (RInt letter158)]) (tt_w (tw_and (tt_ownNe0 1 (fun (s : (List Int)) => s) (R := RInt) (K := K) hr.units dat_int) (tw_and1 (tt_c (cr_eq flat_int) (te_ownIx 1 (fun (s : (List Int)) => s) (R := RInt) (te_neg te_int)) (te_neg (te_var 2 (R := RInt) (f := fun (s : (List Int)) => letter158)))))))
  (fun Kn160 => (ts_expr (te_pop 1 (fun (s : (List Int)) => s) (fun (s : (List Int)) t => t) (R := RInt))
  (ts_end (Γj := fun s : (List Int) => [.im ((RTup K RInt) y.1), .ow (OList RInt s), .im (RInt letter158)]) (fun (s : (List Int)) => s) (fun s => (.same (.same (.same .nil)))))))
  (fun Kn161 => (ts_expr (te_append 1 (fun (s : (List Int)) => s) (fun (s : (List Int)) t => t) (R := RInt) (te_var 2 (R := RInt) (f := fun (s : (List Int)) => letter158)))
  (ts_end (Γj := fun s : (List Int) => [.im ((RTup K RInt) y.1), .ow (OList RInt s), .im (RInt letter158)]) (fun (s : (List Int)) => s) (fun s => (.same (.same (.same .nil)))))))
  (ts_end (Γj := fun s : (List Int) => [.im ((RTup K RInt) y.1), .ow (OList RInt s), .any]) (fun (s : (List Int)) => s) (fun s => (.same (.same (.drop .nil)))))))
  (ts_ret (tn_ownTuple 1 (fun (s : (List Int)) => s) (R := RInt) (bp_tuple T.z_tuple))) PassesOwn.never))) (by intro _ h; delta m_shortened_of at h; exact h)
@[irreducible] def m_do_pass (p_one : (List Int)) (p_other : (List Int)) (Kf : Bool → Prop) : Prop :=
  (p_one.length + p_other.length ≤ 1000000 ∧ m_shortened_of (p_one ++ p_other) fun r170 => (p_other.length + p_one.length ≤ 1000000 ∧ m_shortened_of (p_other ++ p_one) fun r171 => Kf (decide (r170 = r171))))
theorem ok_do_pass (T : Tx P K mg) : FnOk P w K mg base CX0 2 T.a_do_pass T.d_do_pass ["one", "other"] (spP (acons (RTup K RInt) (acons (RTup K RInt) anil)) RBool (fun (y : (List Int) × (List Int) × Unit) Kf => m_do_pass y.1 y.2.1 Kf)) :=
  fnP T.F_do_pass sc_do_pass (fun _ => rfl) fun cdv A outer s H E hr y Kf B => ts_use (
  (ts_ret (te_c (cr_eqD (K := K) rfl hr.units (dat_tup dat_int)) (te_call (ok_shortened_of T) (hr.mono (by decide)) T.g_shortened_of T.F_shortened_of.kp T.b_shortened_of (ta_cons (te_catT (te_var 0 (R := (RTup K RInt)) (f := fun (s : Unit) => y.1)) (te_var 1 (R := (RTup K RInt)) (f := fun (s : Unit) => y.2.1))) ta_nil)) (te_call (ok_shortened_of T) (hr.mono (by decide)) T.g_shortened_of T.F_shortened_of.kp T.b_shortened_of (ta_cons (te_catT (te_var 1 (R := (RTup K RInt)) (f := fun (s : Unit) => y.2.1)) (te_var 0 (R := (RTup K RInt)) (f := fun (s : Unit) => y.1))) ta_nil))))) (by intro _ h; delta m_do_pass at h; exact h)
@[irreducible] def m_go_past (p_one : D_Word) (p_other : D_Word) (Kf : Bool → Prop) : Prop :=
  m_need_word p_one ("one" : Str) fun r172 => m_need_word p_other ("other" : Str) fun r173 => m_do_pass p_one.letters p_other.letters fun r174 => Kf r174
theorem ok_go_past (T : Tx P K mg) : FnOk P w K mg base CX0 3 T.a_go_past T.d_go_past ["one", "other"] (spP (acons (R_Word T) (acons (R_Word T) anil)) RBool (fun (y : D_Word × D_Word × Unit) Kf => m_go_past y.1 y.2.1 Kf)) :=
  fnP T.F_go_past sc_go_past (fun _ => rfl) fun cdv A outer s H E hr y Kf B => ts_use (
  (ts_expr (te_call (ok_need_word T) (hr.mono (by decide)) T.g_need_word T.F_need_word.kp T.b_need_word (ta_cons (te_var 0 (R := (R_Word T)) (f := fun (s : Unit) => y.1)) (ta_cons te_str ta_nil)))
  (ts_expr (te_call (ok_need_word T) (hr.mono (by decide)) T.g_need_word T.F_need_word.kp T.b_need_word (ta_cons (te_var 1 (R := (R_Word T)) (f := fun (s : Unit) => y.2.1)) (ta_cons te_str ta_nil)))
  (ts_ret (te_call (ok_do_pass T) (hr.mono (by decide)) T.g_do_pass T.F_do_pass.kp T.b_do_pass (ta_cons (te_fld (fd_Word_letters T) T.cls_Word T.na_Word_letters (te_var 0 (R := (R_Word T)) (f := fun (s : Unit) => y.1))) (ta_cons (te_fld (fd_Word_letters T) T.cls_Word T.na_Word_letters (te_var 1 (R := (R_Word T)) (f := fun (s : Unit) => y.2.1))) ta_nil))))))) (by intro _ h; delta m_go_past at h; exact h)
theorem ok_fixed0 (T : Tx P K mg) : FnOk P w K mg base CX0 1 T.a_fixed T.d_fixed ["value"] (spP (acons RId anil) RId (fun (y : Pd × Unit) Kf => mFix K 0 y.1 Kf)) :=
  fnP T.F_fixed sc_fixed (fun _ => rfl) fun cdv A outer s H E hr y Kf B => (ts_pre fun hA => ts_use (ts_ifr (tt_val (te_isiA (r := false) (bp_isi T.z_isinstance) (te_var 0 (R := fun _ : Unit => y.1) (f := fun (s : Unit) => ())) (bg_list T.z_list) (bg_tuple T.z_tuple) hA))
  ts_never
  (ts_ret (te_var 0 (R := RId) (f := fun (s : Unit) => y.1)))) (by intro _ h; show (if false = true then False else _); rw [if_neg Bool.false_ne_true]; exact h))
theorem ok_fixedS {n l : Nat} (ih : ∀ T : Tx P K mg, FnOk P w K mg base CX0 l T.a_fixed T.d_fixed ["value"] (spP (acons RId anil) RId (fun (y : Pd × Unit) Kf => mFix K n y.1 Kf))) (T : Tx P K mg) : FnOk P w K mg base CX0 (l + 1) T.a_fixed T.d_fixed ["value"] (spP (acons RId anil) RId (fun (y : Pd × Unit) Kf => mFix K (n + 1) y.1 Kf)) :=
  fnP T.F_fixed sc_fixed (fun _ => rfl) fun cdv A outer s H E hr y Kf B => ts_or (ts_pre fun hA => ts_use (ts_ifr (tt_val (te_isiA (r := false) (bp_isi T.z_isinstance) (te_var 0 (R := fun _ : Unit => y.1) (f := fun (s : Unit) => ())) (bg_list T.z_list) (bg_tuple T.z_tuple) hA))
  ts_never
  (ts_ret (te_var 0 (R := RId) (f := fun (s : Unit) => y.1)))) (by intro _ h; show (if false = true then False else _); rw [if_neg Bool.false_ne_true]; exact h)) (ts_exi fun Ps => ts_pre fun hP => ts_use (ts_ifr (tt_val (te_isiA (r := true) (bp_isi T.z_isinstance) (te_seqOf (i := 0) (x := "value") (pos := ⟨0, 0, 0, 0⟩) hP (te_var 0 (R := fun _ : Unit => y.1) (f := fun (s : Unit) => ()))) (bg_list T.z_list) (bg_tuple T.z_tuple) (tya_sq (kit2 (r1 := true) (r2 := false) (by decide +kernel) (by decide +kernel)) (kit2 (r1 := false) (r2 := true) (by decide +kernel) (by decide +kernel)))))
  (ts_ret (te_id (te_tuple_l (bp_tuple T.z_tuple) (te_known (K := K) (tn_map sc_fixed.nd (ti_sq (K := K) (te_seqOf (i := 0) (x := "value") (pos := ⟨0, 0, 0, 0⟩) hP (te_var 0 (R := fun _ : Unit => y.1) (f := fun (s : Unit) => ())))) (blkOk_by (own := [("each", 1)]) (N := ["value", "each"]) (sc := defScope s_fixed) (by decide +kernel)) (fun _ _ _ _ _ => (pg_name (i := 1) sc_fixed.nd rfl (Or.inl rfl))) (tg_name 1) (fun s1 x1 B' s H C cl fp => (te_call (ih T) (hr.mono (by omega)) T.g_fixed T.F_fixed.kp T.b_fixed (ta_cons (te_var 1 (R := RId) (f := fun (s : Unit) => x1)) ta_nil))))))))
  ts_never) (by intro _ h; show (if true = true then _ else False); rw [if_pos rfl]; exact h))
theorem ok_fixed (T : Tx P K mg) : FnOk P w K mg base CX0 3 T.a_fixed T.d_fixed ["value"] (spP (acons RId anil) RId (fun (y : Pd × Unit) Kf => mFix K 2 y.1 Kf)) :=
  ok_fixedS (ok_fixedS ok_fixed0) T
def flP (r : Str × Pd) : List (Str × Pd) := [("word", RStr r.1), ("parts", r.2)]
theorem okP_NoRoot (T : Tx P K mg) : FnR P w K mg base CX0 4 T.a_Paper___init__ (spIo T.C_NoRoot (fun z : Str × List Pd => RStr z.1 :: z.2) flP (fun y Kf => y.2.length ≤ 1000 ∧ mFix K 2 (RTup K RId y.2) fun p => Kf (y.1, p))) :=
  fnStarIo T.F_Paper___init__ sc_Paper___init__ (fun _ _ h => h.1) (fun _ _ _ _ _ _ us rest hl => match us, hl, rest with | [_, _], _, [] => rfl | [_, _], _, _ :: _ => rfl) fun cdv A outer s H E hr a y Kf B => ts_pre fun _ => ts_use (
  (ts_self (i := 0) (fl := fun (s : Unit) => []) (te_var 1 (R := RStr) (f := fun (s : Unit) => y.1)) T.cls_NoRoot T.na_NoRoot_word (fun w1 =>
  (ts_self (i := 0) (fl := fun (s : Unit) => [("word", RStr w1)]) (te_call (ok_fixed T) (hr.mono (by decide)) T.g_fixed T.F_fixed.kp T.b_fixed (ta_cons (te_id (te_var 2 (R := RTup K RId) (f := fun (s : Unit) => y.2))) ta_nil)) T.cls_NoRoot T.na_NoRoot_parts (fun p1 =>
  (ts_selfEnd (i := 0) (fl := fun (s : Unit) => [("word", RStr w1), ("parts", RId p1)]) (flr := flP) (fun (s : Unit) => (w1, p1)) (fun _ => rfl) (fun _ => rfl))) (hl := fun _ => ⟨rfl, by show 1 < 1000; decide⟩))) (hl := fun _ => ⟨rfl, by show 0 < 1000; decide⟩))) (by intro _ h; exact h)
structure D_NoRoot where
  word : Str
  parts : (Unit)
deriving DecidableEq
def fl_NoRoot (K : PySem.W.Frag) (x : D_NoRoot) : List (Str × Pd) := [("word", RStr x.word), ("parts", (RTn K anil) x.parts)]
def R_NoRoot (T : Tx P K mg) : D_NoRoot → Pd := fun x => RIns T.C_NoRoot (fl_NoRoot K x)
theorem fd_NoRoot_word (T : Tx P K mg) : FldR (R_NoRoot T) T.C_NoRoot "word" RStr (fun x : D_NoRoot => x.word) := fldR (fl := fun x => fl_NoRoot K x) (fun _ => rfl)
theorem fd_NoRoot_parts (T : Tx P K mg) : FldR (R_NoRoot T) T.C_NoRoot "parts" (RTn K anil) (fun x : D_NoRoot => x.parts) := fldR (fl := fun x => fl_NoRoot K x) (fun _ => rfl)
@[irreducible] def m_NoRoot___init__  (Kf : D_NoRoot → Prop) : Prop :=
  Kf (⟨"noroot", (())⟩ : D_NoRoot)
theorem ok_NoRoot___init__ (T : Tx P K mg) : FnOk P w K mg base CX0 5 T.a_NoRoot___init__ T.d_NoRoot___init__ ["self"] (spI T.C_NoRoot anil (R_NoRoot T) (fun (y : Unit) Kf => m_NoRoot___init__  Kf)) :=
  FnOk.impP (fnIS (flS := flP) (fl := fun x => fl_NoRoot K x) (mS := fun y Kf => y.2.length ≤ 1000 ∧ mFix K 2 (RTup K RId y.2) fun p => Kf (y.1, p)) (As := anil) (zf := (fun (y : Unit) => (("noroot" : Str), []))) (mr := (fun (y : Unit) (r : Str × Pd) (Kf : D_NoRoot → Prop) => r = (("noroot" : Str), RTup K RId []) ∧ Kf (⟨"noroot", (())⟩ : D_NoRoot)))
    T.F_NoRoot___init__ sc_NoRoot___init__ rfl T.pfile T.psup T.z_super ⟨_, rfl, rfl⟩ T.kmro_NoRoot T.ksup_NoRoot T.kty_P T.kfn_P T.kany (fun _ => rfl) (okP_NoRoot T) (fun _ => rfl) (fun _ => rfl) (fun _ => ⟨_, rfl⟩) (fun _ => rfl)
    (fun A outer s H y B => (ta_dyn (g := fun (z : Str × Unit) => (z.1, [])) (fun _ => rfl) (ta_cons te_str ta_nil)))
    (fun A outer s H hr a y r Kf B => ts_pre fun hr0 => by
      subst hr0
      exact (ts_selfEnd (i := 0) (fl := fun (s : Unit) => [("word", RStr "noroot"), ("parts", RTup K RId [])]) (flr := fun x => fl_NoRoot K x) (fun (s : Unit) => (⟨"noroot", (())⟩ : D_NoRoot)) (fun _ => rfl) (fun _ => by simp only [fl_NoRoot]; rw [rtn_id]; rfl)))) (fun y Kf h => by delta m_NoRoot___init__ at h; exact ⟨by show 0 ≤ 1000; decide, mFix_tup (by show 0 ≤ 1000000; decide) (mFix_none ⟨rfl, h⟩)⟩)
@[irreducible] def m_is_listed_v1 (p_value : (List Int)) (Kf : Bool → Prop) : Prop :=
  Kf true
theorem ok_is_listed_v1 (T : Tx P K mg) : FnOk P w K mg base CX0 1 T.a_is_listed T.d_is_listed ["value"] (spP (acons (RLst RInt) anil) RBool (fun (y : (List Int) × Unit) Kf => m_is_listed_v1 y.1 Kf)) :=
  fnP T.F_is_listed sc_is_listed (fun _ => rfl) fun cdv A outer s H E hr y Kf B => ts_use (
  (ts_ret (te_isi2 (b := true) (bp_isi T.z_isinstance) ty_lst (te_var 0 (R := (RLst RInt)) (f := fun (s : Unit) => y.1)) (bg_list T.z_list) (bg_tuple T.z_tuple) (kit2 (r1 := true) (r2 := false) (by decide +kernel) (by decide +kernel))))) (by intro _ h; delta m_is_listed_v1 at h; exact h)
@[irreducible] def m_are_letters_v1 (p_value : (List Int)) (Kf : Bool → Prop) : Prop :=
  mB (fun (K179 : Bool → Unit → Prop) => m_is_listed_v1 p_value fun r182 => (if r182 = true then (p_value.length ≤ 1000000 ∧ mMap p_value (fun (x176 : Int) K178 => m_is_letter x176 fun r184 => K178 r184) fun ys183 => K179 (ys183.all id) ()) else K179 false ())) (fun b180 _ => Kf b180)
theorem ok_are_letters_v1 (T : Tx P K mg) : FnOk P w K mg base CX0 4 T.a_are_letters T.d_are_letters ["value"] (spP (acons (RLst RInt) anil) RBool (fun (y : (List Int) × Unit) Kf => m_are_letters_v1 y.1 Kf)) :=
  fnP T.F_are_letters sc_are_letters (fun _ => rfl) fun cdv A outer s H E hr y Kf B => ts_use (
  (ts_ret (te_and (te_call (ok_is_listed_v1 T) (hr.mono (by decide)) T.g_is_listed T.F_is_listed.kp T.b_is_listed (ta_cons (te_var 0 (R := (RLst RInt)) (f := fun (s : Unit) => y.1)) ta_nil)) (te_and1 (te_all (bp_all T.z_all) (te_known (K := K) (tn_map sc_are_letters.nd (ti_list (K := K) (te_l (te_var 0 (R := (RLst RInt)) (f := fun (s : Unit) => y.1)))) (blkOk_by (own := [("each", 1)]) (N := ["value", "each"]) (sc := defScope s_are_letters) (by decide +kernel)) (fun _ _ _ _ _ => (pg_name (i := 1) sc_are_letters.nd rfl (Or.inl rfl))) (tg_name 1) (fun s177 x176 B' s H C cl fp => (te_call (ok_is_letter T) (hr.mono (by decide)) T.g_is_letter T.F_is_letter.kp T.b_is_letter (ta_cons (te_var 1 (R := RInt) (f := fun (s : Unit) => x176)) ta_nil)))))))))) (by intro _ h; delta m_are_letters_v1 at h; exact h)
@[irreducible] def m_Word___init___v1 (p_letters : (List Int)) (Kf : D_Word → Prop) : Prop :=
  m_are_letters_v1 p_letters fun r193 => (if (!r193) = true then False else
  m_need_few (p_letters.length : Int) fun r194 => (fun (length186 : Int) => (p_letters.length ≤ 4000 ∧ mMap p_letters (fun (x187 : Int) K189 => K189 (x187.natAbs : Int)) fun ys195 => ((sortU ys195).length < 64 ∧ (fun (kinds190 : (List Int)) => m_are_short p_letters fun r196 => mB (fun (K197 : Bool → Unit → Prop) => (if r196 = true then m_rounded_of p_letters fun r200 => K197 (decide (r200 = p_letters)) () else K197 false ())) (fun b198 _ => Kf (⟨p_letters, length186, kinds190, r196, b198⟩ : D_Word))) (sortU ys195)))) (p_letters.length : Int))
theorem ok_Word___init___v1 (T : Tx P K mg) : FnOk P w K mg base CX0 5 T.a_Word___init__ T.d_Word___init__ ["self", "letters"] (spI T.C_Word (acons (RLst RInt) anil) (R_Word T) (fun (y : (List Int) × Unit) Kf => m_Word___init___v1 y.1 Kf)) :=
  fnI T.F_Word___init__ sc_Word___init__ (fun _ => rfl) fun cdv A outer s H E hr a y Kf B => ts_use (
  (ts_ifr (tt_not (tt_val (te_call (ok_are_letters_v1 T) (hr.mono (by decide)) T.g_are_letters T.F_are_letters.kp T.b_are_letters (ta_cons (te_var 1 (R := (RLst RInt)) (f := fun (s : Unit) => y.1)) ta_nil))))
  ts_never
  (ts_expr (te_call (ok_need_few T) (hr.mono (by decide)) T.g_need_few T.F_need_few.kp T.b_need_few (ta_cons (te_len (bp_len T.z_len) lens_list (te_l (te_var 1 (R := (RLst RInt)) (f := fun (s : Unit) => y.1)))) ta_nil))
  (ts_self (i := 0) (fl := fun (s : Unit) => []) (te_tuple_l (bp_tuple T.z_tuple) (te_l (te_var 1 (R := (RLst RInt)) (f := fun (s : Unit) => y.1)))) T.cls_Word T.na_Word_letters (fun letters185 =>
  (ts_self (i := 0) (fl := fun (s : Unit) => [("letters", (RTup K RInt) letters185)]) (te_len (bp_len T.z_len) lens_tup (te_self (a := a) (i := 0) (R := (RTup K RInt)) (fl := fun (s : Unit) => [("letters", (RTup K RInt) letters185)]) (f := fun (s : Unit) => letters185) T.cls_Word T.na_Word_letters (fun _ => rfl) (fun _ => rfl))) T.cls_Word T.na_Word_length (fun length186 =>
  (ts_self (i := 0) (fl := fun (s : Unit) => [("letters", (RTup K RInt) letters185), ("length", RInt length186)]) (te_tuple_l (bp_tuple T.z_tuple) (te_known (K := K) (tn_sortedSet (bp_sorted T.z_sorted) (te_setI sc_Word___init__.nd (ti_tup (K := K) (te_self (a := a) (i := 0) (R := (RTup K RInt)) (fl := fun (s : Unit) => [("letters", (RTup K RInt) letters185), ("length", RInt length186)]) (f := fun (s : Unit) => letters185) T.cls_Word T.na_Word_letters (fun _ => rfl) (fun _ => rfl))) (blkOk_by (own := [("letter", 2)]) (N := ["self", "letters", "letter"]) (sc := defScope s_Word___init__) (by decide +kernel)) (fun _ _ _ _ _ => (pg_name (i := 2) sc_Word___init__.nd rfl (Or.inl rfl))) (tg_name 2) (fun s188 x187 B' s H C cl fp => (te_abs (bp_abs T.z_abs) (te_var 2 (R := RInt) (f := fun (s : Unit) => x187)))))))) T.cls_Word T.na_Word_kinds (fun kinds190 =>
  (ts_self (i := 0) (fl := fun (s : Unit) => [("letters", (RTup K RInt) letters185), ("length", RInt length186), ("kinds", (RTup K RInt) kinds190)]) (te_call (ok_are_short T) (hr.mono (by decide)) T.g_are_short T.F_are_short.kp T.b_are_short (ta_cons (te_self (a := a) (i := 0) (R := (RTup K RInt)) (fl := fun (s : Unit) => [("letters", (RTup K RInt) letters185), ("length", RInt length186), ("kinds", (RTup K RInt) kinds190)]) (f := fun (s : Unit) => letters185) T.cls_Word T.na_Word_letters (fun _ => rfl) (fun _ => rfl)) ta_nil)) T.cls_Word T.na_Word_is_short (fun is_short191 =>
  (ts_self (i := 0) (fl := fun (s : Unit) => [("letters", (RTup K RInt) letters185), ("length", RInt length186), ("kinds", (RTup K RInt) kinds190), ("is_short", RBool is_short191)]) (te_and (te_self (a := a) (i := 0) (R := RBool) (fl := fun (s : Unit) => [("letters", (RTup K RInt) letters185), ("length", RInt length186), ("kinds", (RTup K RInt) kinds190), ("is_short", RBool is_short191)]) (f := fun (s : Unit) => is_short191) T.cls_Word T.na_Word_is_short (fun _ => rfl) (fun _ => rfl)) (te_and1 (te_c (cr_eqD (K := K) rfl hr.units (dat_tup dat_int)) (te_call (ok_rounded_of T) (hr.mono (by decide)) T.g_rounded_of T.F_rounded_of.kp T.b_rounded_of (ta_cons (te_self (a := a) (i := 0) (R := (RTup K RInt)) (fl := fun (s : Unit) => [("letters", (RTup K RInt) letters185), ("length", RInt length186), ("kinds", (RTup K RInt) kinds190), ("is_short", RBool is_short191)]) (f := fun (s : Unit) => letters185) T.cls_Word T.na_Word_letters (fun _ => rfl) (fun _ => rfl)) ta_nil)) (te_self (a := a) (i := 0) (R := (RTup K RInt)) (fl := fun (s : Unit) => [("letters", (RTup K RInt) letters185), ("length", RInt length186), ("kinds", (RTup K RInt) kinds190), ("is_short", RBool is_short191)]) (f := fun (s : Unit) => letters185) T.cls_Word T.na_Word_letters (fun _ => rfl) (fun _ => rfl))))) T.cls_Word T.na_Word_is_short_round (fun is_short_round192 =>
  (ts_selfEnd (i := 0) (fl := fun (s : Unit) => [("letters", (RTup K RInt) letters185), ("length", RInt length186), ("kinds", (RTup K RInt) kinds190), ("is_short", RBool is_short191), ("is_short_round", RBool is_short_round192)]) (flr := fun x => fl_Word K x) (fun (s : Unit) => (⟨letters185, length186, kinds190, is_short191, is_short_round192⟩ : D_Word)) (fun _ => rfl) (fun _ => rfl))) (hl := fun _ => ⟨rfl, by show 4 < 1000; decide⟩))) (hl := fun _ => ⟨rfl, by show 3 < 1000; decide⟩))) (hl := fun _ => ⟨rfl, by show 2 < 1000; decide⟩))) (hl := fun _ => ⟨rfl, by show 1 < 1000; decide⟩))) (hl := fun _ => ⟨rfl, by show 0 < 1000; decide⟩))))) (by intro _ h; delta m_Word___init___v1 at h; exact h)
theorem okP_Root (T : Tx P K mg) : FnR P w K mg base CX0 4 T.a_Paper___init__ (spIo T.C_Root (fun z : Str × List Pd => RStr z.1 :: z.2) flP (fun y Kf => y.2.length ≤ 1000 ∧ mFix K 2 (RTup K RId y.2) fun p => Kf (y.1, p))) :=
  fnStarIo T.F_Paper___init__ sc_Paper___init__ (fun _ _ h => h.1) (fun _ _ _ _ _ _ us rest hl => match us, hl, rest with | [_, _], _, [] => rfl | [_, _], _, _ :: _ => rfl) fun cdv A outer s H E hr a y Kf B => ts_pre fun _ => ts_use (
  (ts_self (i := 0) (fl := fun (s : Unit) => []) (te_var 1 (R := RStr) (f := fun (s : Unit) => y.1)) T.cls_Root T.na_Root_word (fun w1 =>
  (ts_self (i := 0) (fl := fun (s : Unit) => [("word", RStr w1)]) (te_call (ok_fixed T) (hr.mono (by decide)) T.g_fixed T.F_fixed.kp T.b_fixed (ta_cons (te_id (te_var 2 (R := RTup K RId) (f := fun (s : Unit) => y.2))) ta_nil)) T.cls_Root T.na_Root_parts (fun p1 =>
  (ts_selfEnd (i := 0) (fl := fun (s : Unit) => [("word", RStr w1), ("parts", RId p1)]) (flr := flP) (fun (s : Unit) => (w1, p1)) (fun _ => rfl) (fun _ => rfl))) (hl := fun _ => ⟨rfl, by show 1 < 1000; decide⟩))) (hl := fun _ => ⟨rfl, by show 0 < 1000; decide⟩))) (by intro _ h; exact h)
structure D_Root where
  word : Str
  parts : (D_Word × Int × Int × Unit)
  root : D_Word
  here : Int
  there : Int
deriving DecidableEq
def fl_Root (T : Tx P K mg) (x : D_Root) : List (Str × Pd) := [("word", RStr x.word), ("parts", (RTn K (acons (R_Word T) (acons RInt (acons RInt anil)))) x.parts), ("root", (R_Word T) x.root), ("here", RInt x.here), ("there", RInt x.there)]
def R_Root (T : Tx P K mg) : D_Root → Pd := fun x => RIns T.C_Root (fl_Root T x)
theorem fd_Root_word (T : Tx P K mg) : FldR (R_Root T) T.C_Root "word" RStr (fun x : D_Root => x.word) := fldR (fl := fun x => fl_Root T x) (fun _ => rfl)
theorem fd_Root_parts (T : Tx P K mg) : FldR (R_Root T) T.C_Root "parts" (RTn K (acons (R_Word T) (acons RInt (acons RInt anil)))) (fun x : D_Root => x.parts) := fldR (fl := fun x => fl_Root T x) (fun _ => rfl)
theorem fd_Root_root (T : Tx P K mg) : FldR (R_Root T) T.C_Root "root" (R_Word T) (fun x : D_Root => x.root) := fldR (fl := fun x => fl_Root T x) (fun _ => rfl)
theorem fd_Root_here (T : Tx P K mg) : FldR (R_Root T) T.C_Root "here" RInt (fun x : D_Root => x.here) := fldR (fl := fun x => fl_Root T x) (fun _ => rfl)
theorem fd_Root_there (T : Tx P K mg) : FldR (R_Root T) T.C_Root "there" RInt (fun x : D_Root => x.there) := fldR (fl := fun x => fl_Root T x) (fun _ => rfl)
@[irreducible] def m_Root___init__ (p_root : D_Word) (p_here : Int) (p_there : Int) (Kf : D_Root → Prop) : Prop :=
  Kf (⟨"root", (p_root, p_here, p_there, ()), p_root, p_here, p_there⟩ : D_Root)
theorem ok_Root___init__ (T : Tx P K mg) : FnOk P w K mg base CX0 5 T.a_Root___init__ T.d_Root___init__ ["self", "root", "here", "there"] (spI T.C_Root (acons (R_Word T) (acons RInt (acons RInt anil))) (R_Root T) (fun (y : D_Word × Int × Int × Unit) Kf => m_Root___init__ y.1 y.2.1 y.2.2.1 Kf)) :=
  FnOk.impP (fnIS (flS := flP) (fl := fun x => fl_Root T x) (mS := fun y Kf => y.2.length ≤ 1000 ∧ mFix K 2 (RTup K RId y.2) fun p => Kf (y.1, p)) (As := (acons (R_Word T) (acons RInt (acons RInt anil)))) (zf := (fun (y : D_Word × Int × Int × Unit) => (("root" : Str), [(R_Word T) y.1, RInt y.2.1, RInt y.2.2.1]))) (mr := (fun (y : D_Word × Int × Int × Unit) (r : Str × Pd) (Kf : D_Root → Prop) => r = (("root" : Str), RTup K RId [(R_Word T) y.1, RInt y.2.1, RInt y.2.2.1]) ∧ Kf (⟨"root", (y.1, y.2.1, y.2.2.1, ()), y.1, y.2.1, y.2.2.1⟩ : D_Root)))
    T.F_Root___init__ sc_Root___init__ rfl T.pfile T.psup T.z_super ⟨_, rfl, rfl⟩ T.kmro_Root T.ksup_Root T.kty_P T.kfn_P T.kany (fun _ => rfl) (okP_Root T) (fun _ => rfl) (fun _ => rfl) (fun _ => ⟨_, rfl⟩) (fun _ => rfl)
    (fun A outer s H y B => (ta_dyn (g := fun (z : Str × D_Word × Int × Int × Unit) => (z.1, [(R_Word T) z.2.1, RInt z.2.2.1, RInt z.2.2.2.1])) (fun _ => rfl) (ta_cons te_str (ta_cons (te_var 1 (R := (R_Word T)) (f := fun (s : Unit) => y.1)) (ta_cons (te_var 2 (R := RInt) (f := fun (s : Unit) => y.2.1)) (ta_cons (te_var 3 (R := RInt) (f := fun (s : Unit) => y.2.2.1)) ta_nil))))))
    (fun A outer s H hr a y r Kf B => ts_pre fun hr0 => by
      subst hr0
      refine ts_use (ts_selfs (mr := fun (ps : List Pd) (_ : Unit) => ps = [(R_Word T) y.1, RInt y.2.1, RInt y.2.2.1] ∧ Kf (⟨"root", (y.1, y.2.1, y.2.2.1, ()), y.1, y.2.1, y.2.2.1⟩ : D_Root)) (K := K) (i := 0) (C := T.C_Root) (a := a) (fns := ["root", "here", "there"]) (fl := fun (s : Unit) => [("word", RStr "root"), ("parts", RTup K RId [(R_Word T) y.1, RInt y.2.1, RInt y.2.2.1])]) (te_self (a := a) (i := 0) (R := RTup K RId) (fl := fun (s : Unit) => [("word", RStr "root"), ("parts", RTup K RId [(R_Word T) y.1, RInt y.2.1, RInt y.2.2.1])]) (f := fun (s : Unit) => [(R_Word T) y.1, RInt y.2.1, RInt y.2.2.1]) T.cls_Root T.na_Root_parts (fun _ => rfl) (fun _ => rfl)) T.cls_Root (List.forall_mem_cons.mpr ⟨T.na_Root_root, (List.forall_mem_cons.mpr ⟨T.na_Root_here, (List.forall_mem_cons.mpr ⟨T.na_Root_there, (fun _ h => nomatch h)⟩)⟩)⟩) (pgs_cons (pg_attr (pe_var (i := 0) rfl (by first | exact Or.inl rfl | exact Or.inr (Or.inl rfl) | exact Or.inr (Or.inr rfl)) (by decide) (by decide))) (pgs_cons (pg_attr (pe_var (i := 0) rfl (by first | exact Or.inl rfl | exact Or.inr (Or.inl rfl) | exact Or.inr (Or.inr rfl)) (by decide) (by decide))) (pgs_cons (pg_attr (pe_var (i := 0) rfl (by first | exact Or.inl rfl | exact Or.inr (Or.inl rfl) | exact Or.inr (Or.inr rfl)) (by decide) (by decide))) pgs_nil))) (fun ps => ts_pre fun e => by
        subst e
        exact (ts_selfEnd (i := 0) (fl := fun (s : Unit) => ([("word", RStr "root"), ("parts", RTup K RId [(R_Word T) y.1, RInt y.2.1, RInt y.2.2.1])] : List (Str × Pd)) ++ (["root", "here", "there"] : List Str).zip [(R_Word T) y.1, RInt y.2.1, RInt y.2.2.1]) (flr := fun x => fl_Root T x) (fun (s : Unit) => (⟨"root", (y.1, y.2.1, y.2.2.1, ()), y.1, y.2.1, y.2.2.1⟩ : D_Root)) (fun _ => rfl) (fun _ => by simp only [fl_Root]; rw [rtn_id]; rfl)))
        (fun _ => ⟨(List.forall_mem_cons.mpr ⟨rfl, (List.forall_mem_cons.mpr ⟨rfl, (List.forall_mem_cons.mpr ⟨rfl, (fun _ h => nomatch h)⟩)⟩)⟩), by decide, by show 5 < 1000; decide⟩)) (by intro _ h; exact ⟨rfl, rfl, h⟩))) (fun y Kf h => by delta m_Root___init__ at h; exact ⟨by show 3 ≤ 1000; decide, mFix_tup (by show 3 ≤ 1000000; decide) (mFix_cons (mFix_atom (atom_ty (ty_ins T.isc_Word) T.ka_Word _) (mFix_cons (mFix_atom (atom_ty ty_int (kit2 (r1 := false) (r2 := false) (by decide +kernel) (by decide +kernel)) _) (mFix_cons (mFix_atom (atom_ty ty_int (kit2 (r1 := false) (r2 := false) (by decide +kernel) (by decide +kernel)) _) (mFix_none ⟨rfl, h⟩) _)) _)) _))⟩)
@[irreducible] def m_least_piece (p_letters : (List Int)) (Kf : (List Int) → Prop) : Prop :=
  (fun (many203 : Int) => ((-(2 ^ 62) ≤ (1 : Int) ∧ (1 : Int) < 2 ^ 62 ∧ -(2 ^ 62) ≤ many203 ∧ many203 < 2 ^ 62) ∧ mFor (rangeL (1 : Int) many203) (fun (size204 : Int) (_ : Unit) Kn205 => mB (fun (K208 : Bool → Unit → Prop) => (size204 ≠ 0 ∧ (if (decide ((many203.fmod size204) = (0 : Int))) = true then (CDivN many203 size204 ∧ ((-(2 ^ 63) ≤ (many203.fdiv size204) ∧ (many203.fdiv size204) < 2 ^ 63 ∧ (pyCut p_letters none (some size204)).length * (many203.fdiv size204).toNat ≤ 1000000) ∧ K208 (decide ((pyRep (pyCut p_letters none (some size204)) (many203.fdiv size204)) = p_letters)) ())) else K208 false ()))) (fun b209 _ => (if b209 = true then Kf (pyCut p_letters none (some size204)) else
  Kn205 ()))) () (fun (_ : Unit) =>
  Kf p_letters))) (p_letters.length : Int)
theorem ok_least_piece (T : Tx P K mg) : FnOk P w K mg base CX0 1 T.a_least_piece T.d_least_piece ["letters"] (spP (acons (RTup K RInt) anil) (RTup K RInt) (fun (y : (List Int) × Unit) Kf => m_least_piece y.1 Kf)) :=
  fnP T.F_least_piece sc_least_piece (fun _ => rfl) fun cdv A outer s H E hr y Kf B => ts_use (
  (ts_set (i := 1) (R := RInt) (ps_set sc_least_piece.nd rfl (Or.inl rfl) (te_len (bp_len T.z_len) lens_tup (te_var 0 (R := (RTup K RInt)) (f := fun (s : Unit) => y.1)))) (fun many203 =>
  (ts_for (Γh := fun s : Unit => [.im ((RTup K RInt) y.1), .im (RInt many203), .any]) (fun (s : Unit) => ()) (fun s => (.same (.same (.drop .nil)))) (ti_range2 T.z_range te_int (te_var 1 (R := RInt) (f := fun (s : Unit) => many203))) (pg_name (i := 2) sc_least_piece.nd rfl (Or.inl rfl)) (tg_name 2)
  (fun q size204 Kn205 => (ts_ifr (tt_w (tw_and (tt_c (cr_eq flat_int) (te_mod (te_var 1 (R := RInt) (f := fun (s : Unit) => many203)) (te_var 2 (R := RInt) (f := fun (s : Unit) => size204))) te_int) (tw_and1 (tt_c (cr_eqD (K := K) rfl hr.units (dat_tup dat_int)) (te_repT (te_cutT (te_var 0 (R := (RTup K RInt)) (f := fun (s : Unit) => y.1)) to_none (to_some (te_var 2 (R := RInt) (f := fun (s : Unit) => size204)))) (te_fdiv (te_var 1 (R := RInt) (f := fun (s : Unit) => many203)) (te_var 2 (R := RInt) (f := fun (s : Unit) => size204)))) (te_var 0 (R := (RTup K RInt)) (f := fun (s : Unit) => y.1))))))
  (ts_ret (te_cutT (te_var 0 (R := (RTup K RInt)) (f := fun (s : Unit) => y.1)) to_none (to_some (te_var 2 (R := RInt) (f := fun (s : Unit) => size204)))))
  (ts_end (Γj := fun s : Unit => [.im ((RTup K RInt) y.1), .im (RInt many203), .any]) (fun (s : Unit) => ()) (fun s => (.same (.same (.drop .nil)))))))
  (ts_ret (te_var 0 (R := (RTup K RInt)) (f := fun (s : Unit) => y.1))) PassesOwn.never)))) (by intro _ h; delta m_least_piece at h; exact h)
@[irreducible] def m_contrary_of (p_letters : (List Int)) (Kf : (List Int) → Prop) : Prop :=
  (p_letters.reverse.length ≤ 1000000 ∧ mMap p_letters.reverse (fun (x211 : Int) K213 => K213 (-x211)) fun ys214 => Kf ys214)
theorem ok_contrary_of (T : Tx P K mg) : FnOk P w K mg base CX0 1 T.a_contrary_of T.d_contrary_of ["letters"] (spP (acons (RTup K RInt) anil) (RTup K RInt) (fun (y : (List Int) × Unit) Kf => m_contrary_of y.1 Kf)) :=
  fnP T.F_contrary_of sc_contrary_of (fun _ => rfl) fun cdv A outer s H E hr y Kf B => ts_use (
  (ts_ret (te_tuple_l (bp_tuple T.z_tuple) (te_known (K := K) (tn_map sc_contrary_of.nd (ti_tup (K := K) (te_revT (te_var 0 (R := (RTup K RInt)) (f := fun (s : Unit) => y.1)))) (blkOk_by (own := [("letter", 1)]) (N := ["letters", "letter"]) (sc := defScope s_contrary_of) (by decide +kernel)) (fun _ _ _ _ _ => (pg_name (i := 1) sc_contrary_of.nd rfl (Or.inl rfl))) (tg_name 1) (fun s212 x211 B' s H C cl fp => (te_neg (te_var 1 (R := RInt) (f := fun (s : Unit) => x211))))))))) (by intro _ h; delta m_contrary_of at h; exact h)
@[irreducible] def m_root_letters (p_letters : (List Int)) (Kf : (List Int) → Prop) : Prop :=
  m_rounded_of p_letters fun r215 => (CDivN ((p_letters.length : Int) - (r215.length : Int)) (2 : Int) ∧ (fun (ahead202 : (List Int)) => m_least_piece r215 fun r216 => (ahead202.length + r216.length ≤ 1000000 ∧ m_contrary_of ahead202 fun r217 => ((ahead202 ++ r216).length + r217.length ≤ 1000000 ∧ Kf ((ahead202 ++ r216) ++ r217)))) (pyCut p_letters none (some (((p_letters.length : Int) - (r215.length : Int)).fdiv (2 : Int)))))
theorem ok_root_letters (T : Tx P K mg) : FnOk P w K mg base CX0 2 T.a_root_letters T.d_root_letters ["letters"] (spP (acons (RTup K RInt) anil) (RTup K RInt) (fun (y : (List Int) × Unit) Kf => m_root_letters y.1 Kf)) :=
  fnP T.F_root_letters sc_root_letters (fun _ => rfl) fun cdv A outer s H E hr y Kf B => ts_use (
  (ts_set (i := 1) (R := (RTup K RInt)) (ps_set sc_root_letters.nd rfl (Or.inl rfl) (te_call (ok_rounded_of T) (hr.mono (by decide)) T.g_rounded_of T.F_rounded_of.kp T.b_rounded_of (ta_cons (te_var 0 (R := (RTup K RInt)) (f := fun (s : Unit) => y.1)) ta_nil))) (fun core201 =>
  (ts_set (i := 2) (R := (RTup K RInt)) (ps_set sc_root_letters.nd rfl (Or.inl rfl) (te_cutT (te_var 0 (R := (RTup K RInt)) (f := fun (s : Unit) => y.1)) to_none (to_some (te_fdiv (te_sub (te_len (bp_len T.z_len) lens_tup (te_var 0 (R := (RTup K RInt)) (f := fun (s : Unit) => y.1))) (te_len (bp_len T.z_len) lens_tup (te_var 1 (R := (RTup K RInt)) (f := fun (s : Unit) => core201)))) te_int)))) (fun ahead202 =>
  (ts_ret (te_catT (te_catT (te_var 2 (R := (RTup K RInt)) (f := fun (s : Unit) => ahead202)) (te_call (ok_least_piece T) (hr.mono (by decide)) T.g_least_piece T.F_least_piece.kp T.b_least_piece (ta_cons (te_var 1 (R := (RTup K RInt)) (f := fun (s : Unit) => core201)) ta_nil))) (te_call (ok_contrary_of T) (hr.mono (by decide)) T.g_contrary_of T.F_contrary_of.kp T.b_contrary_of (ta_cons (te_var 2 (R := (RTup K RInt)) (f := fun (s : Unit) => ahead202)) ta_nil))))))))) (by intro _ h; delta m_root_letters at h; exact h)
@[irreducible] def m_times_in (p_letters : (List Int)) (p_root : (List Int)) (Kf : Int → Prop) : Prop :=
  m_rounded_of p_letters fun r221 => m_rounded_of p_root fun r222 => (fun (q219 : (List Int) × (List Int)) => (([] : List Int).length ≤ 1000000 ∧ (if (decide (p_letters = ([] : List Int))) = true then Kf (0 : Int) else
  (CDivN (q219.1.length : Int) (q219.2.length : Int) ∧ (fun (number220 : Int) => mB (fun (K223 : Int → Unit → Prop) => ((-(2 ^ 63) ≤ number220 ∧ number220 < 2 ^ 63 ∧ q219.2.length * number220.toNat ≤ 1000000) ∧ (if (decide (q219.1 = (pyRep q219.2 number220))) = true then K223 number220 () else K223 (-number220) ()))) (fun v224 _ => Kf v224)) ((q219.1.length : Int).fdiv (q219.2.length : Int)))))) (r221, r222)
theorem ok_times_in (T : Tx P K mg) : FnOk P w K mg base CX0 2 T.a_times_in T.d_times_in ["letters", "root"] (spP (acons (RTup K RInt) (acons (RTup K RInt) anil)) RInt (fun (y : (List Int) × (List Int) × Unit) Kf => m_times_in y.1 y.2.1 Kf)) :=
  fnP T.F_times_in sc_times_in (fun _ => rfl) fun cdv A outer s H E hr y Kf B => ts_use (
  (ts_mul (fk := (fun x => (x.1, x.2.1))) (mk := (fun (s : Unit) x => ())) (Γ' := (fun q219 (s : Unit) => [.im ((RTup K RInt) y.1), .im ((RTup K RInt) y.2.1), .im ((RTup K RInt) q219.1), .im ((RTup K RInt) q219.2), .any])) (ps_mul2 (ps_par (i := 2) (j := 3) rfl sc_times_in.nd rfl rfl (by decide) rfl rfl (tm_e (R := (RTup K RInt)) (te_call (ok_rounded_of T) (hr.mono (by decide)) T.g_rounded_of T.F_rounded_of.kp T.b_rounded_of (ta_cons (te_var 0 (R := (RTup K RInt)) (f := fun (s : Unit) => y.1)) ta_nil)) (tm_e (R := (RTup K RInt)) (te_call (ok_rounded_of T) (hr.mono (by decide)) T.g_rounded_of T.F_rounded_of.kp T.b_rounded_of (ta_cons (te_var 1 (R := (RTup K RInt)) (f := fun (s : Unit) => y.2.1)) ta_nil)) tm_nil)) (by rfl)) tM_mono) (fun _ _ => rfl) (fun _ => rfl) (fun q219 =>
  (ts_ifr (tt_c (cr_eqD (K := K) rfl hr.units (dat_tup dat_int)) (te_var 0 (R := (RTup K RInt)) (f := fun (s : Unit) => y.1)) (te_tuple (K := K) (R := RInt) tl_nil))
  (ts_ret te_int)
  (ts_set (i := 4) (R := RInt) (ps_set sc_times_in.nd rfl (Or.inl rfl) (te_fdiv (te_len (bp_len T.z_len) lens_tup (te_var 2 (R := (RTup K RInt)) (f := fun (s : Unit) => q219.1))) (te_len (bp_len T.z_len) lens_tup (te_var 3 (R := (RTup K RInt)) (f := fun (s : Unit) => q219.2))))) (fun number220 =>
  (ts_ret (te_if (tt_c (cr_eqD (K := K) rfl hr.units (dat_tup dat_int)) (te_var 2 (R := (RTup K RInt)) (f := fun (s : Unit) => q219.1)) (te_repT (te_var 3 (R := (RTup K RInt)) (f := fun (s : Unit) => q219.2)) (te_var 4 (R := RInt) (f := fun (s : Unit) => number220)))) (te_var 4 (R := RInt) (f := fun (s : Unit) => number220)) (te_neg (te_var 4 (R := RInt) (f := fun (s : Unit) => number220))))))))))) (by intro _ h; delta m_times_in at h; exact h)
@[irreducible] def m_common_root (p_one : D_Word) (p_other : D_Word) (Kf : (D_Root ⊕ D_NoRoot) → Prop) : Prop :=
  m_need_word p_one ("one" : Str) fun r226 => m_need_word p_other ("other" : Str) fun r227 => m_shortened_of p_one.letters fun r228 => m_shortened_of p_other.letters fun r229 => (fun (q175 : (List Int) × (List Int)) => m_do_pass q175.1 q175.2 fun r230 => (if (!r230) = true then m_NoRoot___init__ fun w231 => Kf (Sum.inr w231 : (D_Root ⊕ D_NoRoot)) else
  mB (fun (K232 : Bool → Unit → Prop) => (([] : List Int).length ≤ 1000000 ∧ (if (decide (q175.1 = ([] : List Int))) = true then (([] : List Int).length ≤ 1000000 ∧ K232 (decide (q175.2 = ([] : List Int))) ()) else K232 false ()))) (fun b233 _ => (if b233 = true then (([] : List Int).length ≤ 1000000 ∧ m_Word___init___v1 ([] : List Int) fun w236 => m_Root___init__ w236 (0 : Int) (0 : Int) fun w235 => Kf (Sum.inl w235 : (D_Root ⊕ D_NoRoot))) else
  mB (fun (K238 : (List Int) → Unit → Prop) => (([] : List Int).length ≤ 1000000 ∧ (if (!decide (q175.1 = ([] : List Int))) = true then K238 q175.1 () else K238 q175.2 ()))) (fun v239 _ => m_root_letters v239 fun r237 => m_Word___init__ r237 fun w242 => m_times_in q175.1 r237 fun r243 => m_times_in q175.2 r237 fun r244 => m_Root___init__ w242 r243 r244 fun w241 => Kf (Sum.inl w241 : (D_Root ⊕ D_NoRoot))))))) (r228, r229)
theorem ok_common_root (T : Tx P K mg) : FnOk P w K mg base CX0 7 T.a_common_root T.d_common_root ["one", "other"] (spP (acons (R_Word T) (acons (R_Word T) anil)) (RSum (R_Root T) (R_NoRoot T)) (fun (y : D_Word × D_Word × Unit) Kf => m_common_root y.1 y.2.1 Kf)) :=
  fnP T.F_common_root sc_common_root (fun _ => rfl) fun cdv A outer s H E hr y Kf B => ts_use (
  (ts_expr (te_call (ok_need_word T) (hr.mono (by decide)) T.g_need_word T.F_need_word.kp T.b_need_word (ta_cons (te_var 0 (R := (R_Word T)) (f := fun (s : Unit) => y.1)) (ta_cons te_str ta_nil)))
  (ts_expr (te_call (ok_need_word T) (hr.mono (by decide)) T.g_need_word T.F_need_word.kp T.b_need_word (ta_cons (te_var 1 (R := (R_Word T)) (f := fun (s : Unit) => y.2.1)) (ta_cons te_str ta_nil)))
  (ts_mul (fk := (fun x => (x.1, x.2.1))) (mk := (fun (s : Unit) x => ())) (Γ' := (fun q175 (s : Unit) => [.im ((R_Word T) y.1), .im ((R_Word T) y.2.1), .im ((RTup K RInt) q175.1), .im ((RTup K RInt) q175.2), .any])) (ps_mul2 (ps_par (i := 2) (j := 3) rfl sc_common_root.nd rfl rfl (by decide) rfl rfl (tm_e (R := (RTup K RInt)) (te_call (ok_shortened_of T) (hr.mono (by decide)) T.g_shortened_of T.F_shortened_of.kp T.b_shortened_of (ta_cons (te_fld (fd_Word_letters T) T.cls_Word T.na_Word_letters (te_var 0 (R := (R_Word T)) (f := fun (s : Unit) => y.1))) ta_nil)) (tm_e (R := (RTup K RInt)) (te_call (ok_shortened_of T) (hr.mono (by decide)) T.g_shortened_of T.F_shortened_of.kp T.b_shortened_of (ta_cons (te_fld (fd_Word_letters T) T.cls_Word T.na_Word_letters (te_var 1 (R := (R_Word T)) (f := fun (s : Unit) => y.2.1))) ta_nil)) tm_nil)) (by rfl)) tM_mono) (fun _ _ => rfl) (fun _ => rfl) (fun q175 =>
  (ts_ifr (tt_not (tt_val (te_call (ok_do_pass T) (hr.mono (by decide)) T.g_do_pass T.F_do_pass.kp T.b_do_pass (ta_cons (te_var 2 (R := (RTup K RInt)) (f := fun (s : Unit) => q175.1)) (ta_cons (te_var 3 (R := (RTup K RInt)) (f := fun (s : Unit) => q175.2)) ta_nil)))))
  (ts_ret (te_inr (R := (R_Root T)) (te_make0 T.mk_NoRoot (ok_NoRoot___init__ T) (hr.mono (by decide)) T.g_NoRoot T.b_NoRoot___init__)))
  (ts_ifr (tt_w (tw_and (tt_c (cr_eqD (K := K) rfl hr.units (dat_tup dat_int)) (te_var 2 (R := (RTup K RInt)) (f := fun (s : Unit) => q175.1)) (te_tuple (K := K) (R := RInt) tl_nil)) (tw_and1 (tt_c (cr_eqD (K := K) rfl hr.units (dat_tup dat_int)) (te_var 3 (R := (RTup K RInt)) (f := fun (s : Unit) => q175.2)) (te_tuple (K := K) (R := RInt) tl_nil)))))
  (ts_ret (te_inl (R' := (R_NoRoot T)) (te_make T.mk_Root (ok_Root___init__ T) (hr.mono (by decide)) T.g_Root T.b_Root___init__ (ta_cons (te_make T.mk_Word (ok_Word___init___v1 T) (hr.mono (by decide)) T.g_Word T.b_Word___init__ (ta_cons (te_lst (tn_list (R := RInt) tl_nil)) ta_nil)) (ta_cons te_int (ta_cons te_int ta_nil))))))
  (ts_set (i := 4) (R := (RTup K RInt)) (ps_set sc_common_root.nd rfl (Or.inl rfl) (te_call (ok_root_letters T) (hr.mono (by decide)) T.g_root_letters T.F_root_letters.kp T.b_root_letters (ta_cons (te_if (tt_c (cr_neD (K := K) rfl hr.units (dat_tup dat_int)) (te_var 2 (R := (RTup K RInt)) (f := fun (s : Unit) => q175.1)) (te_tuple (K := K) (R := RInt) tl_nil)) (te_var 2 (R := (RTup K RInt)) (f := fun (s : Unit) => q175.1)) (te_var 3 (R := (RTup K RInt)) (f := fun (s : Unit) => q175.2))) ta_nil))) (fun root218 =>
  (ts_ret (te_inl (R' := (R_NoRoot T)) (te_make T.mk_Root (ok_Root___init__ T) (hr.mono (by decide)) T.g_Root T.b_Root___init__ (ta_cons (te_make T.mk_Word (ok_Word___init__ T) (hr.mono (by decide)) T.g_Word T.b_Word___init__ (ta_cons (te_var 4 (R := (RTup K RInt)) (f := fun (s : Unit) => root218)) ta_nil)) (ta_cons (te_call (ok_times_in T) (hr.mono (by decide)) T.g_times_in T.F_times_in.kp T.b_times_in (ta_cons (te_var 2 (R := (RTup K RInt)) (f := fun (s : Unit) => q175.1)) (ta_cons (te_var 4 (R := (RTup K RInt)) (f := fun (s : Unit) => root218)) ta_nil))) (ta_cons (te_call (ok_times_in T) (hr.mono (by decide)) T.g_times_in T.F_times_in.kp T.b_times_in (ta_cons (te_var 3 (R := (RTup K RInt)) (f := fun (s : Unit) => q175.2)) (ta_cons (te_var 4 (R := (RTup K RInt)) (f := fun (s : Unit) => root218)) ta_nil))) ta_nil))))))))))))))) (by intro _ h; delta m_common_root at h; exact h)
@[irreducible] def m_Paper___bool__ (p_self : D_Root) (Kf : Bool → Prop) : Prop :=
  Kf true
theorem ok_Paper___bool__ (T : Tx P K mg) : FnOk P w K mg base CX0 1 T.a_Paper___bool__ T.d_Paper___bool__ ["self"] (spP (acons (R_Root T) anil) RBool (fun (y : D_Root × Unit) Kf => m_Paper___bool__ y.1 Kf)) :=
  fnP T.F_Paper___bool__ sc_Paper___bool__ (fun _ => rfl) fun cdv A outer s H E hr y Kf B => ts_use (
  (ts_ret te_bl)) (by intro _ h; delta m_Paper___bool__ at h; exact h)
@[irreducible] def m_Denial___bool__ (p_self : D_NoRoot) (Kf : Bool → Prop) : Prop :=
  Kf false
theorem ok_Denial___bool__ (T : Tx P K mg) : FnOk P w K mg base CX0 1 T.a_Denial___bool__ T.d_Denial___bool__ ["self"] (spP (acons (R_NoRoot T) anil) RBool (fun (y : D_NoRoot × Unit) Kf => m_Denial___bool__ y.1 Kf)) :=
  fnP T.F_Denial___bool__ sc_Denial___bool__ (fun _ => rfl) fun cdv A outer s H E hr y Kf B => ts_use (
  (ts_ret te_bl)) (by intro _ h; delta m_Denial___bool__ at h; exact h)
@[irreducible] def m_l_couple_right (p_l_known : (List ((List Int) × (List Int)))) (p_l_one : (List Int)) (p_l_other : (List Int)) (Kf : Bool → Prop) : Prop :=
  m_l_are_of_one p_l_known p_l_one p_l_other fun r245 => m_Word___init__ p_l_one fun w246 => m_Word___init__ p_l_other fun w247 => (fun (q157 : Bool × D_Word × D_Word) => mB (fun (K248 : Bool → Unit → Prop) => m_go_past q157.2.1 q157.2.2 fun r251 => (if (!decide ((reprB r251) = (reprB q157.1))) = true then K248 true () else m_go_past q157.2.2 q157.2.1 fun r252 => K248 (!decide ((reprB r252) = (reprB q157.1))) ())) (fun b249 _ => (if b249 = true then Kf false else
  m_common_root q157.2.1 q157.2.2 fun r253 => Kf (decide ((Sum.elim (fun _ : D_Root => true) (fun _ : D_NoRoot => false) r253) = q157.1))))) (r245, w246, w247)
theorem ok_l_couple_right (T : Tx P K mg) : FnOk P w K mg base CX0 8 T.a_l_couple_right T.d_l_couple_right ["_law_known", "_law_one", "_law_other"] (spP (acons (RDict mkT (RLst RInt)) (acons RTi (acons RTi anil))) RBool (fun (y : (List ((List Int) × (List Int))) × (List Int) × (List Int) × Unit) Kf => m_l_couple_right y.1 y.2.1 y.2.2.1 Kf)) :=
  fnP T.F_l_couple_right sc_l_couple_right (fun _ => rfl) fun cdv A outer s H E hr y Kf B => ts_use (
  (ts_mul (fk := (fun x => (x.1, x.2.1, x.2.2.1))) (mk := (fun (s : Unit) x => ())) (Γ' := (fun q157 (s : Unit) => [.im ((RDict mkT (RLst RInt)) y.1), .im (RTi y.2.1), .im (RTi y.2.2.1), .im (RBool q157.1), .im ((R_Word T) q157.2.1), .im ((R_Word T) q157.2.2)])) (ps_mul3 (ps_par3 (i := 3) (j := 4) (l := 5) rfl sc_l_couple_right.nd rfl rfl rfl (by decide) (by decide) (by decide) rfl rfl rfl (tm_e (R := RBool) (te_call (ok_l_are_of_one T) (hr.mono (by decide)) T.g_l_are_of_one T.F_l_are_of_one.kp T.b_l_are_of_one (ta_cons (te_var 0 (R := (RDict mkT (RLst RInt))) (f := fun (s : Unit) => y.1)) (ta_cons (te_var 1 (R := RTi) (f := fun (s : Unit) => y.2.1)) (ta_cons (te_var 2 (R := RTi) (f := fun (s : Unit) => y.2.2.1)) ta_nil)))) (tm_e (R := (R_Word T)) (te_make T.mk_Word (ok_Word___init__ T) (hr.mono (by decide)) T.g_Word T.b_Word___init__ (ta_cons (te_ti (K := K) (te_var 1 (R := RTi) (f := fun (s : Unit) => y.2.1))) ta_nil)) (tm_e (R := (R_Word T)) (te_make T.mk_Word (ok_Word___init__ T) (hr.mono (by decide)) T.g_Word T.b_Word___init__ (ta_cons (te_ti (K := K) (te_var 2 (R := RTi) (f := fun (s : Unit) => y.2.2.1))) ta_nil)) tm_nil))) (by rfl)) tM_mono) (fun _ _ => rfl) (fun _ => rfl) (fun q157 =>
  (ts_ifr (tt_w (tw_or (tt_c (cr_ne flat_str) (te_reprB (bp_repr T.z_repr) (te_call (ok_go_past T) (hr.mono (by decide)) T.g_go_past T.F_go_past.kp T.b_go_past (ta_cons (te_var 4 (R := (R_Word T)) (f := fun (s : Unit) => q157.2.1)) (ta_cons (te_var 5 (R := (R_Word T)) (f := fun (s : Unit) => q157.2.2)) ta_nil)))) (te_reprB (bp_repr T.z_repr) (te_var 3 (R := RBool) (f := fun (s : Unit) => q157.1)))) (tw_or1 (tt_c (cr_ne flat_str) (te_reprB (bp_repr T.z_repr) (te_callK0 (As' := (acons (R_Word T) (acons (R_Word T) anil))) (idx := [0, 1]) (fun z => (z.1, z.2.1, ())) (ok_go_past T) (hr.mono (by decide)) T.g_go_past T.F_go_past.kp (kbn_of (ps := ["one", "other"]) (ks := ["one", "other"]) T.F_go_past 0 [0, 1] (fun _ _ _ _ _ _ us ws h1 h2 => match us, ws, h1, h2 with | [], [_, _], _, _ => rfl)) (tk_cons (te_var 5 (R := (R_Word T)) (f := fun (s : Unit) => q157.2.2)) (tk_cons (te_var 4 (R := (R_Word T)) (f := fun (s : Unit) => q157.2.1)) tk_nil)) (by exact ord_at fun _ _ => rfl))) (te_reprB (bp_repr T.z_repr) (te_var 3 (R := RBool) (f := fun (s : Unit) => q157.1)))))))
  (ts_ret te_bl)
  (ts_ret (te_c (cr_eq flat_bool) (te_boolT (bp_bool T.z_bool) (trut_sum (trut_own (g := (fun _ : D_Root => true)) isI (ok_Paper___bool__ T) (fun x Kf h => by delta m_Paper___bool__; exact h) T.bo_Root T.bof_Root T.b_Paper___bool__ (hr.mono (by decide))) (trut_own (g := (fun _ : D_NoRoot => false)) isI (ok_Denial___bool__ T) (fun x Kf h => by delta m_Denial___bool__; exact h) T.bo_NoRoot T.bof_NoRoot T.b_Denial___bool__ (hr.mono (by decide)))) (te_call (ok_common_root T) (hr.mono (by decide)) T.g_common_root T.F_common_root.kp T.b_common_root (ta_cons (te_var 4 (R := (R_Word T)) (f := fun (s : Unit) => q157.2.1)) (ta_cons (te_var 5 (R := (R_Word T)) (f := fun (s : Unit) => q157.2.2)) ta_nil)))) (te_var 3 (R := RBool) (f := fun (s : Unit) => q157.1)))))))) (by intro _ h; delta m_l_couple_right at h; exact h)
@[irreducible] def m_l_pick (p_l_some : (List (List Int))) (t : Jar) (Kf : (List Int) → Jar → Prop) : Prop :=
  m_l_draw (p_l_some.length : Int) t fun r259 t260 => (∃ v258, pyAt p_l_some r259 = some v258 ∧ Kf v258 t260)
theorem ok_l_pick (T : Tx P K mg) : FnOk P w K mg base CX0 2 T.a_l_pick T.d_l_pick ["_law_jar_here", "_law_some"] (spB OJar (acons (RLst RTi) anil) RTi (fun (y : (List (List Int)) × Unit) t Kf => m_l_pick y.1 t Kf)) :=
  fnB T.F_l_pick sc_l_pick (fun _ => rfl) fun cdv A outer s H E hr j y Kf B => ts_use (
  (ts_retB 0 (fun (s : Jar) => s) (te_ixL (te_l (te_var 1 (R := (RLst RTi)) (f := fun (s : Jar) => y.1))) (te_callB 0 (fun (s : Jar) => s) (fun (s : Jar) t => t) (ok_l_draw T) (hr.mono (by decide)) T.g_l_draw T.F_l_draw.kp T.b_l_draw (ta_cons (te_len (bp_len T.z_len) lens_list (te_l (te_var 1 (R := (RLst RTi)) (f := fun (s : Jar) => y.1)))) ta_nil))))) (by intro _ h; delta m_l_pick at h; exact h)
@[irreducible] def m_Word_then (p_self : D_Word) (p_other : D_Word) (Kf : D_Word → Prop) : Prop :=
  m_need_word p_other ("other" : Str) fun r272 => (p_self.letters.length + p_other.letters.length ≤ 1000000 ∧ m_Word___init__ (p_self.letters ++ p_other.letters) fun w273 => Kf w273)
theorem ok_Word_then (T : Tx P K mg) : FnOk P w K mg base CX0 7 T.a_Word_then T.d_Word_then ["self", "other"] (spP (acons (R_Word T) (acons (R_Word T) anil)) (R_Word T) (fun (y : D_Word × D_Word × Unit) Kf => m_Word_then y.1 y.2.1 Kf)) :=
  fnP T.F_Word_then sc_Word_then (fun _ => rfl) fun cdv A outer s H E hr y Kf B => ts_use (
  (ts_expr (te_call (ok_need_word T) (hr.mono (by decide)) T.g_need_word T.F_need_word.kp T.b_need_word (ta_cons (te_var 1 (R := (R_Word T)) (f := fun (s : Unit) => y.2.1)) (ta_cons te_str ta_nil)))
  (ts_ret (te_make T.mk_Word (ok_Word___init__ T) (hr.mono (by decide)) T.g_Word T.b_Word___init__ (ta_cons (te_catT (te_fld (fd_Word_letters T) T.cls_Word T.na_Word_letters (te_var 0 (R := (R_Word T)) (f := fun (s : Unit) => y.1))) (te_fld (fd_Word_letters T) T.cls_Word T.na_Word_letters (te_var 1 (R := (R_Word T)) (f := fun (s : Unit) => y.2.1)))) ta_nil))))) (by intro _ h; delta m_Word_then at h; exact h)
@[irreducible] def m_Word_contrary (p_self : D_Word) (Kf : D_Word → Prop) : Prop :=
  m_contrary_of p_self.letters fun r275 => m_Word___init__ r275 fun w274 => Kf w274
theorem ok_Word_contrary (T : Tx P K mg) : FnOk P w K mg base CX0 7 T.a_Word_contrary T.d_Word_contrary ["self"] (spP (acons (R_Word T) anil) (R_Word T) (fun (y : D_Word × Unit) Kf => m_Word_contrary y.1 Kf)) :=
  fnP T.F_Word_contrary sc_Word_contrary (fun _ => rfl) fun cdv A outer s H E hr y Kf B => ts_use (
  (ts_ret (te_make T.mk_Word (ok_Word___init__ T) (hr.mono (by decide)) T.g_Word T.b_Word___init__ (ta_cons (te_call (ok_contrary_of T) (hr.mono (by decide)) T.g_contrary_of T.F_contrary_of.kp T.b_contrary_of (ta_cons (te_fld (fd_Word_letters T) T.cls_Word T.na_Word_letters (te_var 0 (R := (R_Word T)) (f := fun (s : Unit) => y.1))) ta_nil)) ta_nil)))) (by intro _ h; delta m_Word_contrary at h; exact h)
@[irreducible] def m_is_within_v1 (p_value : Int) (p_least : Unit) (p_most : Unit) (Kf : Bool → Prop) : Prop :=
  m_is_integer p_value fun r280 => (if (!r280) = true then Kf false else
  mB (fun (K281 : Bool → Unit → Prop) => mB (fun (K284 : Bool → Unit → Prop) => (if (true) = true then K284 true () else False)) (fun b285 _ => (if b285 = true then mB (fun (K287 : Bool → Unit → Prop) => (if (true) = true then K287 true () else False)) (fun b288 _ => K281 b288 ()) else K281 false ()))) (fun b282 _ => Kf b282))
theorem ok_is_within_v1 (T : Tx P K mg) : FnOk P w K mg base CX0 2 T.a_is_within T.d_is_within ["value", "least", "most"] (spP (acons RInt (acons RNon (acons RNon anil))) RBool (fun (y : Int × Unit × Unit × Unit) Kf => m_is_within_v1 y.1 y.2.1 y.2.2.1 Kf)) :=
  fnP T.F_is_within sc_is_within (fun _ => rfl) fun cdv A outer s H E hr y Kf B => ts_use (
  (ts_ifr (tt_not (tt_val (te_call (ok_is_integer T) (hr.mono (by decide)) T.g_is_integer T.F_is_integer.kp T.b_is_integer (ta_cons (te_var 0 (R := RInt) (f := fun (s : Unit) => y.1)) ta_nil))))
  (ts_ret te_bl)
  (ts_ret (te_and (te_or (te_c cr_isNN (te_var 1 (R := RNon) (f := fun (s : Unit) => y.2.1)) te_non) (te_and1 (te_never))) (te_and1 (te_or (te_c cr_isNN (te_var 2 (R := RNon) (f := fun (s : Unit) => y.2.2.1)) te_non) (te_and1 (te_never)))))))) (by intro _ h; delta m_is_within_v1 at h; exact h)
@[irreducible] def m_need_number (p_value : Int) (p_part : Str) (p_least : Unit) (p_most : Unit) (Kf : Unit → Prop) : Prop :=
  m_is_within_v1 p_value p_least p_most fun r290 => (if (!r290) = true then False else
  Kf ())
theorem ok_need_number (T : Tx P K mg) : FnOk P w K mg base CX0 3 T.a_need_number T.d_need_number ["value", "part", "least", "most"] (spP (acons RInt (acons RStr (acons RNon (acons RNon anil)))) RNon (fun (y : Int × Str × Unit × Unit × Unit) Kf => m_need_number y.1 y.2.1 y.2.2.1 y.2.2.2.1 Kf)) :=
  fnP T.F_need_number sc_need_number (fun _ => rfl) fun cdv A outer s H E hr y Kf B => ts_use (
  (ts_ifr (tt_not (tt_val (te_call (ok_is_within_v1 T) (hr.mono (by decide)) T.g_is_within T.F_is_within.kp T.b_is_within (ta_cons (te_var 0 (R := RInt) (f := fun (s : Unit) => y.1)) (ta_cons (te_var 2 (R := RNon) (f := fun (s : Unit) => y.2.2.1)) (ta_cons (te_var 3 (R := RNon) (f := fun (s : Unit) => y.2.2.2.1)) ta_nil))))))
  ts_never
  ts_fall)) (by intro _ h; delta m_need_number at h; exact h)
@[irreducible] def m_Word_times (p_self : D_Word) (p_number : Int) (Kf : D_Word → Prop) : Prop :=
  m_need_number p_number ("number" : Str) () () fun r292 => (if (decide (p_self.length = (0 : Int))) = true then Kf p_self else
  (CMul p_self.length (p_number.natAbs : Int) ∧ m_need_few (p_self.length * (p_number.natAbs : Int)) fun r293 => mB (fun (K294 : (List Int) → Unit → Prop) => (if (decide ((0 : Int) < p_number)) = true then K294 p_self.letters () else m_contrary_of p_self.letters fun r297 => K294 r297 ())) (fun v295 _ => ((-(2 ^ 63) ≤ (p_number.natAbs : Int) ∧ (p_number.natAbs : Int) < 2 ^ 63 ∧ v295.length * (p_number.natAbs : Int).toNat ≤ 1000000) ∧ m_Word___init__ (pyRep v295 (p_number.natAbs : Int)) fun w298 => Kf w298))))
theorem ok_Word_times (T : Tx P K mg) : FnOk P w K mg base CX0 7 T.a_Word_times T.d_Word_times ["self", "number"] (spP (acons (R_Word T) (acons RInt anil)) (R_Word T) (fun (y : D_Word × Int × Unit) Kf => m_Word_times y.1 y.2.1 Kf)) :=
  fnP T.F_Word_times sc_Word_times (fun _ => rfl) fun cdv A outer s H E hr y Kf B => ts_use (
  (ts_expr (te_call (ok_need_number T) (hr.mono (by decide)) T.g_need_number T.F_need_number.kp T.b_need_number (ta_cons (te_var 1 (R := RInt) (f := fun (s : Unit) => y.2.1)) (ta_cons te_str (ta_cons te_non (ta_cons te_non ta_nil)))))
  (ts_ifr (tt_c (cr_eq flat_int) (te_fld (fd_Word_length T) T.cls_Word T.na_Word_length (te_var 0 (R := (R_Word T)) (f := fun (s : Unit) => y.1))) te_int)
  (ts_ret (te_var 0 (R := (R_Word T)) (f := fun (s : Unit) => y.1)))
  (ts_expr (te_call (ok_need_few T) (hr.mono (by decide)) T.g_need_few T.F_need_few.kp T.b_need_few (ta_cons (te_mul (te_fld (fd_Word_length T) T.cls_Word T.na_Word_length (te_var 0 (R := (R_Word T)) (f := fun (s : Unit) => y.1))) (te_abs (bp_abs T.z_abs) (te_var 1 (R := RInt) (f := fun (s : Unit) => y.2.1)))) ta_nil))
  (ts_set (i := 2) (R := (RTup K RInt)) (ps_set sc_Word_times.nd rfl (Or.inl rfl) (te_if (tt_c cr_gt (te_var 1 (R := RInt) (f := fun (s : Unit) => y.2.1)) te_int) (te_fld (fd_Word_letters T) T.cls_Word T.na_Word_letters (te_var 0 (R := (R_Word T)) (f := fun (s : Unit) => y.1))) (te_call (ok_contrary_of T) (hr.mono (by decide)) T.g_contrary_of T.F_contrary_of.kp T.b_contrary_of (ta_cons (te_fld (fd_Word_letters T) T.cls_Word T.na_Word_letters (te_var 0 (R := (R_Word T)) (f := fun (s : Unit) => y.1))) ta_nil)))) (fun letters291 =>
  (ts_ret (te_make T.mk_Word (ok_Word___init__ T) (hr.mono (by decide)) T.g_Word T.b_Word___init__ (ta_cons (te_repT (te_var 2 (R := (RTup K RInt)) (f := fun (s : Unit) => letters291)) (te_abs (bp_abs T.z_abs) (te_var 1 (R := RInt) (f := fun (s : Unit) => y.2.1)))) ta_nil))))))))) (by intro _ h; delta m_Word_times at h; exact h)
@[irreducible] def m_Word___eq__ (p_self : D_Word) (p_other : D_Word) (Kf : Bool → Prop) : Prop :=
  mB (fun (K299 : Bool → Unit → Prop) => (if true = true then K299 (decide (p_self.letters = p_other.letters)) () else K299 false ())) (fun b300 _ => Kf b300)
theorem ok_Word___eq__ (T : Tx P K mg) : FnOk P w K mg base CX0 1 T.a_Word___eq__ T.d_Word___eq__ ["self", "other"] (spP (acons (R_Word T) (acons (R_Word T) anil)) RBool (fun (y : D_Word × D_Word × Unit) Kf => m_Word___eq__ y.1 y.2.1 Kf)) :=
  fnP T.F_Word___eq__ sc_Word___eq__ (fun _ => rfl) fun cdv A outer s H E hr y Kf B => ts_use (
  (ts_ret (te_and (te_isi (b := true) (bp_isi T.z_isinstance) (ty_ins T.isc_Word) (te_var 1 (R := (R_Word T)) (f := fun (s : Unit) => y.2.1)) (pcl_own T.g_Word) T.isc_Word.me) (te_and1 (te_c (cr_eqD (K := K) rfl hr.units (dat_tup dat_int)) (te_fld (fd_Word_letters T) T.cls_Word T.na_Word_letters (te_var 0 (R := (R_Word T)) (f := fun (s : Unit) => y.1))) (te_fld (fd_Word_letters T) T.cls_Word T.na_Word_letters (te_var 1 (R := (R_Word T)) (f := fun (s : Unit) => y.2.1)))))))) (by intro _ h; delta m_Word___eq__ at h; exact h)
def eqW (x y : D_Word) : Bool := decide (x.letters = y.letters)
theorem eqW_ok (x y : D_Word) (Kf : Bool → Prop) (h : Kf (eqW x y)) : m_Word___eq__ x y Kf := by delta m_Word___eq__; exact h

@[irreducible] def m_l_pair_right (p_l_known : (List ((List Int) × (List Int)))) (p_l_words_here : (List (List Int))) (p_l_one : (List Int)) (p_l_other : (List Int)) (t : Jar) (Kf : Bool → Jar → Prop) : Prop :=
  m_l_couple_right p_l_known p_l_one p_l_other fun r302 => (if (!r302) = true then Kf false t else
  m_l_pick p_l_words_here t fun r304 t305 => m_Word___init__ r304 fun w303 => m_Word___init__ p_l_one fun w306 => m_Word___init__ p_l_other fun w307 => (fun (q269 : D_Word × D_Word × D_Word) => ([q269.2.1, q269.2.2].length ≤ 1000000 ∧ ([q269.2.1, q269.2.2].length ≤ 1000000 ∧ mMap [q269.2.1, q269.2.2] (fun (x270 : D_Word) K276 => m_Word_then q269.1 x270 fun r310 => m_Word_contrary q269.1 fun r311 => m_Word_then r310 r311 fun r309 => K276 r309) fun ys308 => m_go_past q269.2.1 q269.2.2 fun r312 => mB (fun (K313 : Bool → Jar → Prop) => (∃ v317, pyAt ys308 (0 : Int) = some v317 ∧ (∃ v318, pyAt ys308 (1 : Int) = some v318 ∧ m_go_past v317 v318 fun r316 => (if (!decide (r316 = r312)) = true then K313 true t305 else m_Word_contrary q269.2.2 fun r320 => m_go_past q269.2.1 r320 fun r319 => (if (!decide (r319 = r312)) = true then K313 true t305 else m_Word_contrary q269.2.1 fun r322 => m_go_past r322 q269.2.2 fun r321 => K313 (!decide (r321 = r312)) t305))))) (fun b314 s315 => (if b314 = true then Kf false s315 else
  mB (fun (K323 : Bool → Jar → Prop) => (if (!r312) = true then K323 true s315 else (([] : List Int).length ≤ 1000000 ∧ (if (decide (p_l_one = ([] : List Int))) = true then K323 true s315 else (([] : List Int).length ≤ 1000000 ∧ K323 (decide (p_l_other = ([] : List Int))) s315))))) (fun b324 s325 => (if b324 = true then Kf true s325 else
  m_common_root q269.2.1 q269.2.2 fun r327 => (∃ u326, r327 = Sum.inl u326 ∧ m_l_draw (6 : Int) s325 fun r328 t329 => (fun (q279 : D_Word × Int) => mB (fun (K330 : Bool → Jar → Prop) => m_go_past q279.1 q269.2.1 fun r333 => (if (!r333) = true then K330 true t329 else m_Word_times q279.1 (-q279.2) fun r335 => m_go_past r335 q269.2.2 fun r334 => (if (!r334) = true then K330 true t329 else m_common_root q269.2.1 q279.1 fun r337 => (∃ u336, r337 = Sum.inl u336 ∧ K330 (!decide (u336.parts.2.2.1 = (1 : Int))) t329)))) (fun b331 s332 => (if b331 = true then Kf false s332 else
  m_common_root q269.2.2 q269.2.1 fun r342 => (∃ u341, r342 = Sum.inl u341 ∧ m_Word_contrary q279.1 fun r343 => ([q279.1, r343].length ≤ 1000000 ∧ (fun (K338 : Bool → Jar → Prop) => K338 true s332 ∧ K338 ([q279.1, r343].any fun y => eqW y u341.root) s332) (fun b339 s340 => Kf b339 s340)))))) (u326.root, r328))))))))) (w303, w306, w307))
theorem ok_l_pair_right (T : Tx P K mg) : FnOk P w K mg base CX0 9 T.a_l_pair_right T.d_l_pair_right ["_law_jar_here", "_law_known", "_law_words_here", "_law_one", "_law_other"] (spB OJar (acons (RDict mkT (RLst RInt)) (acons (RLst RTi) (acons RTi (acons RTi anil)))) RBool (fun (y : (List ((List Int) × (List Int))) × (List (List Int)) × (List Int) × (List Int) × Unit) t Kf => m_l_pair_right y.1 y.2.1 y.2.2.1 y.2.2.2.1 t Kf)) :=
  fnB T.F_l_pair_right sc_l_pair_right (fun _ => rfl) fun cdv A outer s H E hr j y Kf B => ts_use (
  (ts_ifr (tt_not (tt_val (te_call (ok_l_couple_right T) (hr.mono (by decide)) T.g_l_couple_right T.F_l_couple_right.kp T.b_l_couple_right (ta_cons (te_var 1 (R := (RDict mkT (RLst RInt))) (f := fun (s : Jar) => y.1)) (ta_cons (te_var 3 (R := RTi) (f := fun (s : Jar) => y.2.2.1)) (ta_cons (te_var 4 (R := RTi) (f := fun (s : Jar) => y.2.2.2.1)) ta_nil))))))
  (ts_retB 0 (fun (s : Jar) => s) te_bl)
  (ts_mul (fk := (fun x => (x.1, x.2.1, x.2.2.1))) (mk := (fun (s : Jar) x => s)) (Γ' := (fun q269 (s : Jar) => [.bo j (OJar s), .im ((RDict mkT (RLst RInt)) y.1), .im ((RLst RTi) y.2.1), .im (RTi y.2.2.1), .im (RTi y.2.2.2.1), .im ((R_Word T) q269.1), .im ((R_Word T) q269.2.1), .im ((R_Word T) q269.2.2), .any, .any, .any, .any, .any])) (ps_mulT (is := [5, 6, 7]) (ps_asg (pe_tup (tm_e (R := (R_Word T)) (te_make T.mk_Word (ok_Word___init__ T) (hr.mono (by decide)) T.g_Word T.b_Word___init__ (ta_cons (te_ti (K := K) (te_callB 0 (fun (s : Jar) => s) (fun (s : Jar) t => t) (ok_l_pick T) (hr.mono (by decide)) T.g_l_pick T.F_l_pick.kp T.b_l_pick (ta_cons (te_var 2 (R := (RLst RTi)) (f := fun (s : Jar) => y.2.1)) ta_nil))) ta_nil)) (tm_e (R := (R_Word T)) (te_make T.mk_Word (ok_Word___init__ T) (hr.mono (by decide)) T.g_Word T.b_Word___init__ (ta_cons (te_ti (K := K) (te_var 3 (R := RTi) (f := fun (s : Jar) => y.2.2.1))) ta_nil)) (tm_e (R := (R_Word T)) (te_make T.mk_Word (ok_Word___init__ T) (hr.mono (by decide)) T.g_Word T.b_Word___init__ (ta_cons (te_ti (K := K) (te_var 4 (R := RTi) (f := fun (s : Jar) => y.2.2.2.1))) ta_nil)) tm_nil)))) (pg_tup rfl (pgs_cons (pg_name (i := 5) sc_l_pair_right.nd rfl (Or.inr rfl)) (pgs_cons (pg_name (i := 6) sc_l_pair_right.nd rfl (Or.inl rfl)) (pgs_cons (pg_name (i := 7) sc_l_pair_right.nd rfl (Or.inl rfl)) pgs_nil))))) (by decide) tM_mono) (fun _ _ => rfl) (fun _ => rfl) (fun q269 =>
  (ts_set (i := 8) (R := (RLst (R_Word T))) (ps_map (i := 8) sc_l_pair_right.nd (ti_tup (K := K) (te_tuple (K := K) (R := (R_Word T)) (tl_cons (te_var 6 (R := (R_Word T)) (f := fun (s : Jar) => q269.2.1)) (tl_cons (te_var 7 (R := (R_Word T)) (f := fun (s : Jar) => q269.2.2)) tl_nil)))) (blkOk_by (own := [("_law_word", 12)]) (N := ["_law_jar_here", "_law_known", "_law_words_here", "_law_one", "_law_other", "_law_ahead", "_law_mine", "_law_its", "_law_moved", "_law_told", "_law_root", "_law_number", "_law_word"]) (sc := defScope s_l_pair_right) (by decide +kernel)) (fun _ _ _ _ _ => (pg_name (i := 12) sc_l_pair_right.nd rfl (Or.inl rfl))) (tg_name 12) (fun s271 x270 B' s H C cl fp => (te_meth (mn := "then") (insR (fun _ => rfl)) (te_meth (mn := "then") (insR (fun _ => rfl)) (te_var 5 (R := (R_Word T)) (f := fun (s : Unit) => q269.1)) T.cls_Word T.me_Word_then (ok_Word_then T) (hr.mono (by decide)) T.b_Word_then (ta_cons (te_var 12 (R := (R_Word T)) (f := fun (s : Unit) => x270)) ta_nil)) T.cls_Word T.me_Word_then (ok_Word_then T) (hr.mono (by decide)) T.b_Word_then (ta_cons (te_meth0 (mn := "contrary") (insR (fun _ => rfl)) (te_var 5 (R := (R_Word T)) (f := fun (s : Unit) => q269.1)) T.cls_Word T.me_Word_contrary (ok_Word_contrary T) (hr.mono (by decide)) T.b_Word_contrary) ta_nil)))) (fun l_moved277 =>
  (ts_set (i := 9) (R := RBool) (ps_set sc_l_pair_right.nd rfl (Or.inl rfl) (te_call (ok_go_past T) (hr.mono (by decide)) T.g_go_past T.F_go_past.kp T.b_go_past (ta_cons (te_var 6 (R := (R_Word T)) (f := fun (s : Jar) => q269.2.1)) (ta_cons (te_var 7 (R := (R_Word T)) (f := fun (s : Jar) => q269.2.2)) ta_nil)))) (fun l_told278 =>
  (ts_ifr (tt_w (tw_or (tt_c (cr_ne flat_bool) (te_call (ok_go_past T) (hr.mono (by decide)) T.g_go_past T.F_go_past.kp T.b_go_past (ta_cons (te_ixL (te_l (te_var 8 (R := (RLst (R_Word T))) (f := fun (s : Jar) => l_moved277))) te_int) (ta_cons (te_ixL (te_l (te_var 8 (R := (RLst (R_Word T))) (f := fun (s : Jar) => l_moved277))) te_int) ta_nil))) (te_var 9 (R := RBool) (f := fun (s : Jar) => l_told278))) (tw_or (tt_c (cr_ne flat_bool) (te_call (ok_go_past T) (hr.mono (by decide)) T.g_go_past T.F_go_past.kp T.b_go_past (ta_cons (te_var 6 (R := (R_Word T)) (f := fun (s : Jar) => q269.2.1)) (ta_cons (te_meth0 (mn := "contrary") (insR (fun _ => rfl)) (te_var 7 (R := (R_Word T)) (f := fun (s : Jar) => q269.2.2)) T.cls_Word T.me_Word_contrary (ok_Word_contrary T) (hr.mono (by decide)) T.b_Word_contrary) ta_nil))) (te_var 9 (R := RBool) (f := fun (s : Jar) => l_told278))) (tw_or1 (tt_c (cr_ne flat_bool) (te_call (ok_go_past T) (hr.mono (by decide)) T.g_go_past T.F_go_past.kp T.b_go_past (ta_cons (te_meth0 (mn := "contrary") (insR (fun _ => rfl)) (te_var 6 (R := (R_Word T)) (f := fun (s : Jar) => q269.2.1)) T.cls_Word T.me_Word_contrary (ok_Word_contrary T) (hr.mono (by decide)) T.b_Word_contrary) (ta_cons (te_var 7 (R := (R_Word T)) (f := fun (s : Jar) => q269.2.2)) ta_nil))) (te_var 9 (R := RBool) (f := fun (s : Jar) => l_told278)))))))
  (ts_retB 0 (fun (s : Jar) => s) te_bl)
  (ts_ifr (tt_w (tw_or (tt_not (tt_val (te_var 9 (R := RBool) (f := fun (s : Jar) => l_told278)))) (tw_or (tt_c (cr_eqD (K := K) rfl hr.units (dat_tup dat_int)) (te_ti (K := K) (te_var 3 (R := RTi) (f := fun (s : Jar) => y.2.2.1))) (te_ti (K := K) (te_tupleTi tl_nil))) (tw_or1 (tt_c (cr_eqD (K := K) rfl hr.units (dat_tup dat_int)) (te_ti (K := K) (te_var 4 (R := RTi) (f := fun (s : Jar) => y.2.2.2.1))) (te_ti (K := K) (te_tupleTi tl_nil)))))))
  (ts_retB 0 (fun (s : Jar) => s) te_bl)
  (ts_mul (fk := (fun x => (x.1, x.2.1))) (mk := (fun (s : Jar) x => s)) (Γ' := (fun q279 (s : Jar) => [.bo j (OJar s), .im ((RDict mkT (RLst RInt)) y.1), .im ((RLst RTi) y.2.1), .im (RTi y.2.2.1), .im (RTi y.2.2.2.1), .im ((R_Word T) q269.1), .im ((R_Word T) q269.2.1), .im ((R_Word T) q269.2.2), .im ((RLst (R_Word T)) l_moved277), .im (RBool l_told278), .im ((R_Word T) q279.1), .im (RInt q279.2), .any])) (ps_mul2 (ps_par (i := 10) (j := 11) rfl sc_l_pair_right.nd rfl rfl (by decide) rfl rfl (tm_e (R := (R_Word T)) (te_fld (fd_Root_root T) T.cls_Root T.na_Root_root (te_outl (te_call (ok_common_root T) (hr.mono (by decide)) T.g_common_root T.F_common_root.kp T.b_common_root (ta_cons (te_var 6 (R := (R_Word T)) (f := fun (s : Jar) => q269.2.1)) (ta_cons (te_var 7 (R := (R_Word T)) (f := fun (s : Jar) => q269.2.2)) ta_nil))))) (tm_e (R := RInt) (te_callB 0 (fun (s : Jar) => s) (fun (s : Jar) t => t) (ok_l_draw T) (hr.mono (by decide)) T.g_l_draw T.F_l_draw.kp T.b_l_draw (ta_cons te_int ta_nil)) tm_nil)) (by rfl)) tM_mono) (fun _ _ => rfl) (fun _ => rfl) (fun q279 =>
  (ts_ifr (tt_w (tw_or (tt_not (tt_val (te_call (ok_go_past T) (hr.mono (by decide)) T.g_go_past T.F_go_past.kp T.b_go_past (ta_cons (te_var 10 (R := (R_Word T)) (f := fun (s : Jar) => q279.1)) (ta_cons (te_var 6 (R := (R_Word T)) (f := fun (s : Jar) => q269.2.1)) ta_nil))))) (tw_or (tt_not (tt_val (te_call (ok_go_past T) (hr.mono (by decide)) T.g_go_past T.F_go_past.kp T.b_go_past (ta_cons (te_meth (mn := "times") (insR (fun _ => rfl)) (te_var 10 (R := (R_Word T)) (f := fun (s : Jar) => q279.1)) T.cls_Word T.me_Word_times (ok_Word_times T) (hr.mono (by decide)) T.b_Word_times (ta_cons (te_neg (te_var 11 (R := RInt) (f := fun (s : Jar) => q279.2))) ta_nil)) (ta_cons (te_var 7 (R := (R_Word T)) (f := fun (s : Jar) => q269.2.2)) ta_nil))))) (tw_or1 (tt_c (cr_ne flat_int) (te_tnIx (R := RInt) (get := fun y => y.2.2.1) 2 (te_fld (fd_Root_parts T) T.cls_Root T.na_Root_parts (te_outl (te_call (ok_common_root T) (hr.mono (by decide)) T.g_common_root T.F_common_root.kp T.b_common_root (ta_cons (te_var 6 (R := (R_Word T)) (f := fun (s : Jar) => q269.2.1)) (ta_cons (te_var 10 (R := (R_Word T)) (f := fun (s : Jar) => q279.1)) ta_nil))))) (fun _ vs _ h => match vs, h with | [_, _, _], ⟨_, _, h, _⟩ => ⟨_, rfl, h⟩)) te_int)))))
  (ts_retB 0 (fun (s : Jar) => s) te_bl)
  (ts_retB 0 (fun (s : Jar) => s) (te_inOwn (C := T.C_Word) isI isI (ok_Word___eq__ T) (fun x y Kf h => eqW_ok x y Kf h) T.eq_Word T.eqf_Word T.b_Word___eq__ (hr.mono (by decide)) (te_fld (fd_Root_root T) T.cls_Root T.na_Root_root (te_outl (te_call (ok_common_root T) (hr.mono (by decide)) T.g_common_root T.F_common_root.kp T.b_common_root (ta_cons (te_var 7 (R := (R_Word T)) (f := fun (s : Jar) => q269.2.2)) (ta_cons (te_var 6 (R := (R_Word T)) (f := fun (s : Jar) => q269.2.1)) ta_nil))))) (te_lst (tn_list (R := (R_Word T)) (tl_cons (te_var 10 (R := (R_Word T)) (f := fun (s : Jar) => q279.1)) (tl_cons (te_meth0 (mn := "contrary") (insR (fun _ => rfl)) (te_var 10 (R := (R_Word T)) (f := fun (s : Jar) => q279.1)) T.cls_Word T.me_Word_contrary (ok_Word_contrary T) (hr.mono (by decide)) T.b_Word_contrary) tl_nil))))))))))))))))))) (by intro _ h; delta m_l_pair_right at h; exact h)
@[irreducible] def m_law (p_l_script : (List Int)) (Kf : Bool → Prop) : Prop :=
  m_l_jar p_l_script fun t350 => ((0 ≤ (1 : Int) ∧ (1 : Int) ≤ 1000000 ∧ 0 ≤ (27 : Int) ∧ (27 : Int) ≤ 1000000) ∧ ((-(2 ^ 62) ≤ (2 : Int) ∧ (2 : Int) < 2 ^ 62) ∧ ((rangeL 0 (2 : Int)).length ≤ 1000000 ∧ mMapS (rangeL 0 (2 : Int)) (fun (x5 : Int) (t23 : Jar × List Int) K22 => m_l_draw (t23.2.length : Int) t23.1 fun r354 t355 => (∃ v353, (0 ≤ r354 ∧ r354 < (t23.2.length : Int) ∧ r354 ≤ 1000000 ∧ t23.2[r354.toNat]? = some v353) ∧ K22 v353 (t355, (t23.2.eraseIdx r354.toNat)))) (t350, (rangeL (1 : Int) (27 : Int))) fun ys351 t352 => m_l_draw (10 : Int) t352.1 fun r356 t357 => m_l_words ys351 (3 : Int) fun r358 => m_l_powers (pyCut r358 (some (1 : Int)) none) fun r359 => mB (fun (K360 : (List (List Int)) → Jar × (List Int) → Prop) => (if (decide (r356 = (0 : Int))) = true then K360 r358 (t357, t352.2) else K360 (pyCut r358 none (some (17 : Int))) (t357, t352.2))) (fun v361 s362 => (fun (q86 : (List ((List Int) × (List Int))) × (List (List Int))) => mFor q86.2 (fun (l_one87 : (List Int)) (s348 : Jar × (List Int)) Kn88 => mFor q86.2 (fun (l_other89 : (List Int)) (s254 : Jar × (List Int)) Kn90 => m_l_couple_right q86.1 l_one87 l_other89 fun r363 => (if (!r363) = true then Kf false else
  Kn90 (s254.1, s254.2))) (s348.1, s348.2) (fun (s255 : Jar × (List Int)) =>
  Kn88 (s255.1, s255.2))) (s362.1, s362.2) (fun (s349 : Jar × (List Int)) =>
  ((-(2 ^ 62) ≤ (5 : Int) ∧ (5 : Int) < 2 ^ 62) ∧ mFor (rangeL 0 (5 : Int)) (fun (l_turn256 : Int) (s346 : Jar × (List Int)) Kn257 => m_l_pick (pyCut r358 (some (1 : Int)) none) s346.1 fun r364 t365 => m_l_draw (4 : Int) t365 fun r367 t368 => ((-(2 ^ 63) ≤ ((1 : Int) + r367) ∧ ((1 : Int) + r367) < 2 ^ 63 ∧ r364.length * ((1 : Int) + r367).toNat ≤ 1000000) ∧ m_l_short (pyRep r364 ((1 : Int) + r367)) fun r366 => ((-(2 ^ 62) ≤ (4 : Int) ∧ (4 : Int) < 2 ^ 62) ∧ ((rangeL 0 (4 : Int)).length ≤ 1000000 ∧ mMapS (rangeL 0 (4 : Int)) (fun (x263 : Int) (t266 : Jar) K265 => m_l_pick r358 t266 fun r371 t372 => K265 r371 t372) t368 fun ys369 t370 => ((pyCut r358 none (some (17 : Int))).length + ys369.length ≤ 1000000 ∧ mFor ((pyCut r358 none (some (17 : Int))) ++ ys369) (fun (l_other267 : (List Int)) (s344 : Jar × (List Int)) Kn268 => m_l_pair_right q86.1 r358 r366 l_other267 s344.1 fun r373 t374 => (if (!r373) = true then Kf false else
  Kn268 (t374, s344.2))) (t370, s346.2) (fun (s345 : Jar × (List Int)) =>
  Kn257 (s345.1, s345.2))))))) (s349.1, s349.2) (fun (s347 : Jar × (List Int)) =>
  Kf true)))) (r359, v361)))))
theorem ok_law (T : Tx P K mg) : FnOk P w K mg base CX0 10 T.a_law T.d_law ["_law_script"] (spP (acons (RList K RInt) anil) RBool (fun (y : (List Int) × Unit) Kf => m_law y.1 Kf)) :=
  fnP T.F_law sc_law (fun _ => rfl) fun cdv A outer s H E hr y Kf B => ts_use (
  (ts_setCallO (i := 1) (O := OJar) (Γ' := fun (s : Jar) => [.im ((RList K RInt) y.1), .ow (OJar s), .any, .any, .any, .any, .any, .any, .any, .any, .any, .any, .any, .any]) (mk := fun (s : Unit) t => t) sc_law.nd (ok_l_jar T) (hr.mono (by decide)) T.g_l_jar T.F_l_jar.kp T.b_l_jar (ta_cons (te_var 0 (R := (RList K RInt)) (f := fun (s : Unit) => y.1)) ta_nil) (fun _ _ => rfl)
  (ts_setO (i := 2) (Γ' := fun (s : Jar × (List Int)) => [.im ((RList K RInt) y.1), .ow (OJar s.1), .ow (OList RInt s.2), .any, .any, .any, .any, .any, .any, .any, .any, .any, .any, .any]) (mk := fun (s : Jar) y => (s, y)) (ps_set sc_law.nd rfl (Or.inr rfl) (tn_listRg2 T.z_list T.z_range te_int te_int)) (fun _ _ => rfl)
  (ts_set (i := 3) (R := (RLst RInt)) (ps_mapOO (l := 3) 1 2 (O1 := OJar) (O2 := OList RInt) (fun (s : Jar × (List Int)) => s.1) (fun (s : Jar × (List Int)) t => (t, s.2)) (fun (s : Jar × (List Int)) => s.2) (fun (s : Jar × (List Int)) t => (s.1, t)) sc_law.nd (ti_range1 T.z_range te_int) (blkOk_by (own := [("_law_turn", 10)]) (N := ["_law_script", "_law_jar_here", "_law_left", "_law_kinds", "_law_way", "_law_words_here", "_law_known", "_law_some", "_law_one", "_law_other", "_law_turn", "_law_piece", "_law_long", "_law_spot"]) (sc := defScope s_law) (by decide +kernel)) (fun _ _ _ _ _ => (pg_name (i := 10) sc_law.nd rfl (Or.inl rfl))) (tg_name 10) (fun s6 x5 B' j j2 s H C cl fp => (te_popAtB 2 (fun (s : Jar × (List Int)) => s.2) (fun (s : Jar × (List Int)) t => (s.1, t)) (R := RInt) (te_callB 1 (fun (s : Jar × (List Int)) => s.1) (fun (s : Jar × (List Int)) t => (t, s.2)) (ok_l_draw T) (hr.mono (by decide)) T.g_l_draw T.F_l_draw.kp T.b_l_draw (ta_cons (te_ownLenB 2 (fun (s : Jar × (List Int)) => s.2) (R := RInt) (bp_len T.z_len)) ta_nil))))) (fun l_kinds24 =>
  (ts_set (i := 4) (R := RInt) (ps_set sc_law.nd rfl (Or.inl rfl) (te_callO 1 (fun (s : Jar × (List Int)) => s.1) (fun (s : Jar × (List Int)) t => (t, s.2)) (ok_l_draw T) (hr.mono (by decide)) T.g_l_draw T.F_l_draw.kp T.b_l_draw (ta_cons te_int ta_nil))) (fun l_way25 =>
  (ts_set (i := 5) (R := (RLst RTi)) (ps_set sc_law.nd rfl (Or.inr rfl) (te_call (ok_l_words T) (hr.mono (by decide)) T.g_l_words T.F_l_words.kp T.b_l_words (ta_cons (te_var 3 (R := (RLst RInt)) (f := fun (s : Jar × (List Int)) => l_kinds24)) (ta_cons te_int ta_nil)))) (fun l_words_here49 =>
  (ts_mul (fk := (fun x => (x.1, x.2.1))) (mk := (fun (s : Jar × (List Int)) x => (s.1, s.2))) (Γ' := (fun q86 (s : Jar × (List Int)) => [.im ((RList K RInt) y.1), .ow (OJar s.1), .ow (OList RInt s.2), .im ((RLst RInt) l_kinds24), .im (RInt l_way25), .im ((RLst RTi) l_words_here49), .im ((RDict mkT (RLst RInt)) q86.1), .im ((RLst RTi) q86.2), .any, .any, .any, .any, .any, .any])) (ps_mul2 (ps_par (i := 6) (j := 7) rfl sc_law.nd rfl rfl (by decide) rfl rfl (tm_e (R := (RDict mkT (RLst RInt))) (te_call (ok_l_powers T) (hr.mono (by decide)) T.g_l_powers T.F_l_powers.kp T.b_l_powers (ta_cons (te_lst (tn_cut (te_l (te_var 5 (R := (RLst RTi)) (f := fun (s : Jar × (List Int)) => l_words_here49))) (to_some te_int) to_none)) ta_nil)) (tm_e (R := (RLst RTi)) (te_if (tt_c (cr_eq flat_int) (te_var 4 (R := RInt) (f := fun (s : Jar × (List Int)) => l_way25)) te_int) (te_var 5 (R := (RLst RTi)) (f := fun (s : Jar × (List Int)) => l_words_here49)) (te_lst (tn_cut (te_l (te_var 5 (R := (RLst RTi)) (f := fun (s : Jar × (List Int)) => l_words_here49))) to_none (to_some te_int)))) tm_nil)) (by rfl)) tM_mono) (fun _ _ => rfl) (fun _ => rfl) (fun q86 =>
  (ts_for (Γh := fun s : Jar × (List Int) => [.im ((RList K RInt) y.1), .ow (OJar s.1), .ow (OList RInt s.2), .im ((RLst RInt) l_kinds24), .im (RInt l_way25), .im ((RLst RTi) l_words_here49), .im ((RDict mkT (RLst RInt)) q86.1), .im ((RLst RTi) q86.2), .any, .any, .any, .any, .any, .any]) (fun (s : Jar × (List Int)) => (s.1, s.2)) (fun s => (.same (.same (.same (.same (.same (.same (.same (.same (.drop (.drop (.drop (.drop (.drop (.drop .nil))))))))))))))) (ti_list (K := K) (te_l (te_var 7 (R := (RLst RTi)) (f := fun (s : Jar × (List Int)) => q86.2)))) (pg_name (i := 8) sc_law.nd rfl (Or.inl rfl)) (tg_name 8)
  (fun q l_one87 Kn88 => (ts_for (Γh := fun s : Jar × (List Int) => [.im ((RList K RInt) y.1), .ow (OJar s.1), .ow (OList RInt s.2), .im ((RLst RInt) l_kinds24), .im (RInt l_way25), .im ((RLst RTi) l_words_here49), .im ((RDict mkT (RLst RInt)) q86.1), .im ((RLst RTi) q86.2), .im (RTi l_one87), .any, .any, .any, .any, .any]) (fun (s : Jar × (List Int)) => (s.1, s.2)) (fun s => (.same (.same (.same (.same (.same (.same (.same (.same (.same (.drop (.drop (.drop (.drop (.drop .nil))))))))))))))) (ti_list (K := K) (te_l (te_var 7 (R := (RLst RTi)) (f := fun (s : Jar × (List Int)) => q86.2)))) (pg_name (i := 9) sc_law.nd rfl (Or.inl rfl)) (tg_name 9)
  (fun q l_other89 Kn90 => (ts_ifr (tt_not (tt_val (te_call (ok_l_couple_right T) (hr.mono (by decide)) T.g_l_couple_right T.F_l_couple_right.kp T.b_l_couple_right (ta_cons (te_var 6 (R := (RDict mkT (RLst RInt))) (f := fun (s : Jar × (List Int)) => q86.1)) (ta_cons (te_var 8 (R := RTi) (f := fun (s : Jar × (List Int)) => l_one87)) (ta_cons (te_var 9 (R := RTi) (f := fun (s : Jar × (List Int)) => l_other89)) ta_nil))))))
  (ts_ret te_bl)
  (ts_end (Γj := fun s : Jar × (List Int) => [.im ((RList K RInt) y.1), .ow (OJar s.1), .ow (OList RInt s.2), .im ((RLst RInt) l_kinds24), .im (RInt l_way25), .im ((RLst RTi) l_words_here49), .im ((RDict mkT (RLst RInt)) q86.1), .im ((RLst RTi) q86.2), .im (RTi l_one87), .any, .any, .any, .any, .any]) (fun (s : Jar × (List Int)) => (s.1, s.2)) (fun s => (.same (.same (.same (.same (.same (.same (.same (.same (.same (.drop (.drop (.drop (.drop (.drop .nil))))))))))))))))))
  (ts_end (Γj := fun s : Jar × (List Int) => [.im ((RList K RInt) y.1), .ow (OJar s.1), .ow (OList RInt s.2), .im ((RLst RInt) l_kinds24), .im (RInt l_way25), .im ((RLst RTi) l_words_here49), .im ((RDict mkT (RLst RInt)) q86.1), .im ((RLst RTi) q86.2), .any, .any, .any, .any, .any, .any]) (fun (s : Jar × (List Int)) => (s.1, s.2)) (fun s => (.same (.same (.same (.same (.same (.same (.same (.same (.drop (.drop (.drop (.drop (.drop (.drop .nil)))))))))))))))) PassesOwn.never))
  (ts_for (Γh := fun s : Jar × (List Int) => [.im ((RList K RInt) y.1), .ow (OJar s.1), .ow (OList RInt s.2), .im ((RLst RInt) l_kinds24), .im (RInt l_way25), .im ((RLst RTi) l_words_here49), .im ((RDict mkT (RLst RInt)) q86.1), .im ((RLst RTi) q86.2), .any, .any, .any, .any, .any, .any]) (fun (s : Jar × (List Int)) => (s.1, s.2)) (fun s => (.same (.same (.same (.same (.same (.same (.same (.same (.drop (.drop (.drop (.drop (.drop (.drop .nil))))))))))))))) (ti_range1 T.z_range te_int) (pg_name (i := 10) sc_law.nd rfl (Or.inl rfl)) (tg_name 10)
  (fun q l_turn256 Kn257 => (ts_set (i := 11) (R := RTi) (ps_set sc_law.nd rfl (Or.inl rfl) (te_callO 1 (fun (s : Jar × (List Int)) => s.1) (fun (s : Jar × (List Int)) t => (t, s.2)) (ok_l_pick T) (hr.mono (by decide)) T.g_l_pick T.F_l_pick.kp T.b_l_pick (ta_cons (te_lst (tn_cut (te_l (te_var 5 (R := (RLst RTi)) (f := fun (s : Jar × (List Int)) => l_words_here49))) (to_some te_int) to_none)) ta_nil))) (fun l_piece261 =>
  (ts_set (i := 12) (R := RTi) (ps_set sc_law.nd rfl (Or.inl rfl) (te_tuple_lTi (bp_tuple T.z_tuple) (te_l (te_call (ok_l_short T) (hr.mono (by decide)) T.g_l_short T.F_l_short.kp T.b_l_short (ta_cons (te_lst (tn_rep (te_lst (tn_tupList (bp_list T.z_list) (te_ti (K := K) (te_var 11 (R := RTi) (f := fun (s : Jar × (List Int)) => l_piece261))))) (te_add te_int (te_callO 1 (fun (s : Jar × (List Int)) => s.1) (fun (s : Jar × (List Int)) t => (t, s.2)) (ok_l_draw T) (hr.mono (by decide)) T.g_l_draw T.F_l_draw.kp T.b_l_draw (ta_cons te_int ta_nil))))) ta_nil))))) (fun l_long262 =>
  (ts_for (Γh := fun s : Jar × (List Int) => [.im ((RList K RInt) y.1), .ow (OJar s.1), .ow (OList RInt s.2), .im ((RLst RInt) l_kinds24), .im (RInt l_way25), .im ((RLst RTi) l_words_here49), .im ((RDict mkT (RLst RInt)) q86.1), .im ((RLst RTi) q86.2), .any, .any, .im (RInt l_turn256), .im (RTi l_piece261), .im (RTi l_long262), .any]) (fun (s : Jar × (List Int)) => (s.1, s.2)) (fun s => (.same (.same (.same (.same (.same (.same (.same (.same (.drop (.drop (.same (.same (.same (.drop .nil))))))))))))))) (ti_list (K := K) (te_known (K := K) (tn_cat (te_lst (tn_cut (te_l (te_var 5 (R := (RLst RTi)) (f := fun (s : Jar × (List Int)) => l_words_here49))) to_none (to_some te_int))) (te_lst (tn_mapO 1 (fun (s : Jar × (List Int)) => s.1) (fun (s : Jar × (List Int)) t => (t, s.2)) sc_law.nd (ti_range1 T.z_range te_int) (blkOk_by (own := [("_law_spot", 13)]) (N := ["_law_script", "_law_jar_here", "_law_left", "_law_kinds", "_law_way", "_law_words_here", "_law_known", "_law_some", "_law_one", "_law_other", "_law_turn", "_law_piece", "_law_long", "_law_spot"]) (sc := defScope s_law) (by decide +kernel)) (fun _ _ _ _ _ => (pg_name (i := 13) sc_law.nd rfl (Or.inl rfl))) (tg_name 13) (fun s264 x263 B' j s H C cl fp => (te_callB 1 (fun (s : Jar) => s) (fun (s : Jar) t => t) (ok_l_pick T) (hr.mono (by decide)) T.g_l_pick T.F_l_pick.kp T.b_l_pick (ta_cons (te_var 5 (R := (RLst RTi)) (f := fun (s : Jar) => l_words_here49)) ta_nil)))))))) (pg_name (i := 9) sc_law.nd rfl (Or.inl rfl)) (tg_name 9)
  (fun q l_other267 Kn268 => (ts_ifr (tt_not (tt_val (te_callO 1 (fun (s : Jar × (List Int)) => s.1) (fun (s : Jar × (List Int)) t => (t, s.2)) (ok_l_pair_right T) (hr.mono (by decide)) T.g_l_pair_right T.F_l_pair_right.kp T.b_l_pair_right (ta_cons (te_var 6 (R := (RDict mkT (RLst RInt))) (f := fun (s : Jar × (List Int)) => q86.1)) (ta_cons (te_var 5 (R := (RLst RTi)) (f := fun (s : Jar × (List Int)) => l_words_here49)) (ta_cons (te_var 12 (R := RTi) (f := fun (s : Jar × (List Int)) => l_long262)) (ta_cons (te_var 9 (R := RTi) (f := fun (s : Jar × (List Int)) => l_other267)) ta_nil)))))))
  (ts_ret te_bl)
  (ts_end (Γj := fun s : Jar × (List Int) => [.im ((RList K RInt) y.1), .ow (OJar s.1), .ow (OList RInt s.2), .im ((RLst RInt) l_kinds24), .im (RInt l_way25), .im ((RLst RTi) l_words_here49), .im ((RDict mkT (RLst RInt)) q86.1), .im ((RLst RTi) q86.2), .any, .any, .im (RInt l_turn256), .im (RTi l_piece261), .im (RTi l_long262), .any]) (fun (s : Jar × (List Int)) => (s.1, s.2)) (fun s => (.same (.same (.same (.same (.same (.same (.same (.same (.drop (.drop (.same (.same (.same (.drop .nil))))))))))))))))))
  (ts_end (Γj := fun s : Jar × (List Int) => [.im ((RList K RInt) y.1), .ow (OJar s.1), .ow (OList RInt s.2), .im ((RLst RInt) l_kinds24), .im (RInt l_way25), .im ((RLst RTi) l_words_here49), .im ((RDict mkT (RLst RInt)) q86.1), .im ((RLst RTi) q86.2), .any, .any, .any, .any, .any, .any]) (fun (s : Jar × (List Int)) => (s.1, s.2)) (fun s => (.same (.same (.same (.same (.same (.same (.same (.same (.drop (.drop (.drop (.drop (.drop (.drop .nil)))))))))))))))) PassesOwn.never))))))
  (ts_ret te_bl) PassesOwn.never) PassesOwn.never)))))))))))) (by intro _ h; delta m_law at h; exact h)
end
end G
/-! words over letters: shortening, contrary, cores -/
namespace WM
def push (x : Int) : List Int → List Int
  | [] => [x]
  | y :: r => if x = -y then r else x :: y :: r
theorem push_cons (x y : Int) (r : List Int) : push x (y :: r) = if x = -y then r else x :: y :: r := rfl
def red (l : List Int) : List Int := l.foldr push []
def Rd : List Int → Prop
  | [] => True
  | [_] => True
  | x :: y :: r => x ≠ -y ∧ Rd (y :: r)
theorem rd_tail {x : Int} : ∀ {r : List Int}, Rd (x :: r) → Rd r
  | [], _ => trivial
  | _ :: _, h => h.2
theorem rd_push {x : Int} : ∀ {r : List Int}, Rd r → Rd (push x r)
  | [], _ => trivial
  | y :: r, h => by
    rw [push_cons]
    split
    · exact rd_tail h
    · rename_i n; exact ⟨n, h⟩
theorem rd_red : ∀ l : List Int, Rd (red l)
  | [] => trivial
  | x :: l => rd_push (rd_red l)
theorem push_of {x : Int} : ∀ {r : List Int}, Rd (x :: r) → push x r = x :: r
  | [], _ => rfl
  | y :: r, h => if_neg h.1
theorem red_of : ∀ {l : List Int}, Rd l → red l = l
  | [], _ => rfl
  | x :: l, h => by
    show push x (red l) = x :: l
    rw [red_of (rd_tail h), push_of h]
theorem red_red (l : List Int) : red (red l) = red l := red_of (rd_red l)
theorem push_push {x : Int} : ∀ {r : List Int}, Rd r → push x (push (-x) r) = r
  | [], _ => by
    show push x [-x] = []
    rw [push_cons, if_pos (by omega)]
  | y :: r, h => by
    by_cases e : -x = -y
    · have e1 : x = y := by omega
      subst e1
      have : push (-x) (x :: r) = r := if_pos rfl
      rw [this, push_of h]
    · have : push (-x) (y :: r) = -x :: y :: r := if_neg e
      rw [this]
      exact if_pos (by omega)
theorem red_append (a b : List Int) : red (a ++ b) = a.foldr push (red b) := by
  unfold red
  rw [List.foldr_append]
theorem red_cons (x : Int) (l : List Int) : red (x :: l) = push x (red l) := rfl
theorem red_cancel (a b : List Int) (x : Int) : red (a ++ x :: -x :: b) = red (a ++ b) := by
  rw [red_append, red_append, red_cons, red_cons, push_push (rd_red b)]
theorem red_app_red (a b : List Int) : red (a ++ red b) = red (a ++ b) := by
  rw [red_append, red_append, red_red]
theorem push_app (x : Int) : ∀ (r b : List Int), red (push x r ++ b) = push x (red (r ++ b))
  | [], b => rfl
  | y :: r, b => by
    by_cases e : x = -y
    · have e2 : push x (y :: r) = r := if_pos e
      have e3 : y = -x := by omega
      rw [e2]
      show _ = push x (push y (red (r ++ b)))
      rw [e3, push_push (rd_red _)]
    · have e2 : push x (y :: r) = x :: y :: r := if_neg e
      rw [e2]; rfl
theorem red_red_app : ∀ (a b : List Int), red (red a ++ b) = red (a ++ b)
  | [], b => rfl
  | x :: a, b => by
    show red (push x (red a) ++ b) = push x (red (a ++ b))
    rw [push_app, red_red_app a b]
theorem red_congr {b b' : List Int} (a c : List Int) (h : red b = red b') : red (a ++ b ++ c) = red (a ++ b' ++ c) := by
  rw [List.append_assoc, List.append_assoc, ← red_app_red a (b ++ c), ← red_app_red a (b' ++ c), ← red_red_app b, ← red_red_app b', h]
theorem red_congr2 {a a' b b' : List Int} (h : red a = red a') (h' : red b = red b') : red (a ++ b) = red (a' ++ b') := by
  rw [← red_red_app a, ← red_red_app a', ← red_app_red _ b, ← red_app_red _ b', h, h']
/-- the contrary word -/
def inv (l : List Int) : List Int := l.reverse.map fun x => -x
theorem inv_nil : inv [] = [] := rfl
theorem inv_cons (x : Int) (l : List Int) : inv (x :: l) = inv l ++ [-x] := by simp [inv]
theorem inv_app (a b : List Int) : inv (a ++ b) = inv b ++ inv a := by simp [inv]
theorem inv_inv (l : List Int) : inv (inv l) = l := by
  unfold inv
  rw [← List.map_reverse, List.reverse_reverse, List.map_map]
  have : ((fun x : Int => -x) ∘ fun x => -x) = id := by funext x; show - -x = x; omega
  rw [this, List.map_id]
theorem inv_len (l : List Int) : (inv l).length = l.length := by simp [inv]
theorem red_inv_right : ∀ (l b : List Int), red (l ++ (inv l ++ b)) = red b
  | [], b => rfl
  | x :: l, b => by
    rw [inv_cons]
    show push x (red (l ++ (inv l ++ [-x] ++ b))) = red b
    have : inv l ++ [-x] ++ b = inv l ++ (-x :: b) := by simp
    rw [this, red_inv_right l, red_cons, push_push (rd_red b)]
theorem red_inv_left (l b : List Int) : red (inv l ++ (l ++ b)) = red b := by
  have := red_inv_right (inv l) b
  rwa [inv_inv] at this
theorem rd_append : ∀ {a b : List Int}, Rd (a ++ b) ↔ Rd a ∧ Rd b ∧ ∀ x y, a.getLast? = some x → b.head? = some y → x ≠ -y
  | [], b => by simp [Rd]
  | [x], [] => by simp [Rd]
  | [x], y :: b => by
    show (x ≠ -y ∧ Rd (y :: b)) ↔ _
    simp [Rd]
    constructor
    · rintro ⟨h1, h2⟩; exact ⟨h2, h1⟩
    · rintro ⟨h1, h2⟩; exact ⟨h2, h1⟩
  | x :: z :: a, b => by
    have ih := rd_append (a := z :: a) (b := b)
    show (x ≠ -z ∧ Rd (z :: a ++ b)) ↔ _
    rw [ih]
    have e : (x :: z :: a).getLast? = (z :: a).getLast? := by simp [List.getLast?_cons_cons]
    rw [e]
    show _ ↔ (x ≠ -z ∧ Rd (z :: a)) ∧ _
    constructor
    · rintro ⟨h1, h2, h3, h4⟩; exact ⟨⟨h1, h2⟩, h3, h4⟩
    · rintro ⟨⟨h1, h2⟩, h3, h4⟩; exact ⟨h1, h2, h3, h4⟩
theorem rd_left {a b : List Int} (h : Rd (a ++ b)) : Rd a := (rd_append.mp h).1
theorem rd_right {a b : List Int} (h : Rd (a ++ b)) : Rd b := (rd_append.mp h).2.1
theorem inv_head (l : List Int) : (inv l).head? = l.getLast?.map fun x => -x := by
  unfold inv
  rw [List.head?_map, List.head?_reverse]
theorem inv_last (l : List Int) : (inv l).getLast? = l.head?.map fun x => -x := by
  unfold inv
  rw [List.getLast?_map, List.getLast?_reverse]
theorem rd_inv : ∀ {l : List Int}, Rd l → Rd (inv l)
  | [], _ => trivial
  | x :: l, h => by
    rw [inv_cons]
    refine rd_append.mpr ⟨rd_inv (rd_tail h), trivial, fun a b ha hb => ?_⟩
    rw [inv_last] at ha
    simp at hb
    subst hb
    cases l with
    | nil => simp at ha
    | cons y l =>
      simp at ha
      subst ha
      have := h.1
      omega
theorem red_inv_push (x : Int) : ∀ {r : List Int}, Rd r → red (inv (x :: r)) = inv (push x r)
  | [], _ => rfl
  | y :: r, h => by
    by_cases e : x = -y
    · have e2 : push x (y :: r) = r := if_pos e
      rw [e2, inv_cons, inv_cons]
      have e3 : inv r ++ [-y] ++ [-x] = inv r ++ (-y :: -(-y) :: []) := by rw [e]; simp
      rw [e3, red_cancel, List.append_nil]
      exact red_of (rd_inv (rd_tail h))
    · have e2 : push x (y :: r) = x :: y :: r := if_neg e
      rw [e2]
      exact red_of (rd_inv ⟨e, h⟩)
theorem red_inv : ∀ l : List Int, red (inv l) = inv (red l)
  | [] => rfl
  | x :: l => by
    rw [inv_cons, ← red_red_app, red_inv l, ← inv_cons, red_inv_push x (rd_red l)]
    rfl
theorem red_mem : ∀ {l : List Int} {x : Int}, x ∈ red l → x ∈ l
  | y :: l, x, h => by
    have h : x ∈ push y (red l) := h
    cases e : red l with
    | nil =>
      rw [e] at h
      simp [push] at h
      subst h; exact List.mem_cons_self
    | cons z r =>
      rw [e, push_cons] at h
      split at h
      · exact List.mem_cons_of_mem _ (red_mem (by rw [e]; exact List.mem_cons_of_mem _ h))
      · rcases List.mem_cons.mp h with h | h
        · subst h; exact List.mem_cons_self
        · exact List.mem_cons_of_mem _ (red_mem (by rw [e]; exact h))
theorem push_len (x : Int) : ∀ r : List Int, (push x r).length ≤ r.length + 1
  | [] => Nat.le_refl _
  | y :: r => by
    rw [push_cons]
    split
    · simp; omega
    · simp
theorem red_len : ∀ l : List Int, (red l).length ≤ l.length
  | [] => Nat.le_refl _
  | x :: l => by
    have := push_len x (red l)
    have := red_len l
    show (push x (red l)).length ≤ l.length + 1
    omega
/-! powers -/
def rep (n : Nat) (l : List Int) : List Int := (List.replicate n l).flatten
theorem rep_zero (l : List Int) : rep 0 l = [] := rfl
theorem rep_succ (n : Nat) (l : List Int) : rep (n + 1) l = l ++ rep n l := by simp [rep, List.replicate_succ]
theorem rep_nil : ∀ n, rep n [] = []
  | 0 => rfl
  | n + 1 => by rw [rep_succ, rep_nil n]; rfl
theorem rep_len : ∀ n (l : List Int), (rep n l).length = n * l.length
  | 0, l => by simp [rep]
  | n + 1, l => by rw [rep_succ, List.length_append, rep_len n l, Nat.succ_mul, Nat.add_comm]
theorem red_rep {l l' : List Int} (h : red l = red l') : ∀ n, red (rep n l) = red (rep n l')
  | 0 => rfl
  | n + 1 => by rw [rep_succ, rep_succ]; exact red_congr2 h (red_rep h n)
theorem red_rep_conj (p b : List Int) : ∀ n, red (rep n (p ++ b ++ inv p)) = red (p ++ rep n b ++ inv p)
  | 0 => by
    have := red_inv_right p []
    rw [List.append_nil] at this
    show red [] = red (p ++ [] ++ inv p)
    rw [List.append_nil, this]
  | n + 1 => by
    rw [rep_succ, rep_succ, ← red_app_red, red_rep_conj p b n, red_app_red]
    have e : p ++ b ++ inv p ++ (p ++ rep n b ++ inv p) = (p ++ b) ++ (inv p ++ (p ++ (rep n b ++ inv p))) := by simp
    rw [e, ← red_app_red, red_inv_left, red_app_red]
    simp
end WM
namespace WM
/-- no letter at the front meets its contrary at the end -/
def Cyc (b : List Int) : Prop := ∀ x y, 1 < b.length → b.head? = some x → b.getLast? = some y → x ≠ -y
def coreF : Nat → List Int → List Int
  | 0, l => l
  | n + 1, l => if 1 < l.length ∧ l.head? = l.getLast?.map (fun x => -x) then coreF n l.tail.dropLast else l
def core (l : List Int) : List Int := coreF l.length l
theorem ends_of {l : List Int} (h : 1 < l.length) : ∃ x m y, l = x :: (m ++ [y]) := by
  cases l with
  | nil => simp at h
  | cons x r =>
    refine ⟨x, r.dropLast, r.getLast (by intro z; subst z; simp at h), ?_⟩
    rw [List.dropLast_concat_getLast]
theorem head_ends (x y : Int) (m : List Int) : (x :: (m ++ [y])).head? = some x := rfl
theorem last_ends (x y : Int) (m : List Int) : (x :: (m ++ [y])).getLast? = some y := by
  rw [← List.cons_append, List.getLast?_append]; rfl
theorem mid_ends (x y : Int) (m : List Int) : (x :: (m ++ [y])).tail.dropLast = m := by simp
theorem coreF_spec : ∀ (n : Nat) (l : List Int), l.length ≤ n → ∃ p, l = p ++ coreF n l ++ inv p ∧ Cyc (coreF n l)
  | 0, l, h => by
    have : l = [] := List.eq_nil_of_length_eq_zero (by omega)
    subst this
    exact ⟨[], rfl, fun x y h => by simp [coreF] at h⟩
  | n + 1, l, h => by
    by_cases c : 1 < l.length ∧ l.head? = l.getLast?.map (fun x => -x)
    · have e : coreF (n + 1) l = coreF n l.tail.dropLast := if_pos c
      obtain ⟨x, m, y, rfl⟩ := ends_of c.1
      have c2 := c.2
      rw [head_ends, last_ends] at c2
      simp at c2
      rw [e, mid_ends]
      obtain ⟨p, h1, h2⟩ := coreF_spec n m (by simp at h; omega)
      refine ⟨x :: p, ?_, h2⟩
      rw [inv_cons]
      have : x :: p ++ coreF n m ++ (inv p ++ [-x]) = x :: ((p ++ coreF n m ++ inv p) ++ [-x]) := by simp
      rw [this, ← h1, c2]
      simp
    · have e : coreF (n + 1) l = l := if_neg c
      rw [e]
      refine ⟨[], by simp [inv], fun x y h1 h2 h3 q => c ⟨h1, ?_⟩⟩
      rw [h2, h3, q]; rfl
theorem core_spec (l : List Int) : ∃ p, l = p ++ core l ++ inv p ∧ Cyc (core l) := coreF_spec _ l (Nat.le_refl _)
theorem core_uniq : ∀ {p p' b b' : List Int}, p ++ b ++ inv p = p' ++ b' ++ inv p' → Cyc b → Cyc b' → b = b' ∧ p = p'
  | [], [], b, b', h, _, _ => by simpa [inv] using h
  | [], x :: p, b, b', h, hb, _ => by
    exfalso
    rw [inv_cons] at h
    have e : b = x :: ((p ++ b' ++ inv p) ++ [-x]) := by
      simp [inv_nil] at h
      rw [h]; simp
    subst e
    refine hb x (-x) (by simp; omega) rfl (last_ends _ _ _) (by omega)
  | x :: p, [], b, b', h, _, hb => by
    exfalso
    rw [inv_cons] at h
    have e : b' = x :: ((p ++ b ++ inv p) ++ [-x]) := by
      simp [inv_nil] at h
      rw [← h]; simp
    subst e
    refine hb x (-x) (by simp; omega) rfl (last_ends _ _ _) (by omega)
  | x :: p, y :: p', b, b', h, h1, h2 => by
    rw [inv_cons, inv_cons] at h
    have h : x :: ((p ++ b ++ inv p) ++ [-x]) = y :: ((p' ++ b' ++ inv p') ++ [-y]) := by
      have e1 : x :: p ++ b ++ (inv p ++ [-x]) = x :: ((p ++ b ++ inv p) ++ [-x]) := by simp
      have e2 : y :: p' ++ b' ++ (inv p' ++ [-y]) = y :: ((p' ++ b' ++ inv p') ++ [-y]) := by simp
      rw [← e1, ← e2, h]
    injection h with hx h
    have h := (List.append_inj' h rfl).1
    obtain ⟨r1, r2⟩ := core_uniq h h1 h2
    exact ⟨r1, by rw [hx, r2]⟩
theorem core_is {l p b : List Int} (h : l = p ++ b ++ inv p) (hb : Cyc b) : core l = b := by
  obtain ⟨q, h1, h2⟩ := core_spec l
  have := (core_uniq (h1.symm.trans h) h2 hb).1
  exact this
theorem core_of {b : List Int} (hb : Cyc b) : core b = b := core_is (p := []) (by simp [inv]) hb
theorem cyc_core (l : List Int) : Cyc (core l) := (core_spec l).choose_spec.2
theorem core_core (l : List Int) : core (core l) = core l := core_of (cyc_core l)
theorem cyc_nil : Cyc [] := fun x y h => by simp at h
theorem core_nil : core [] = [] := core_of cyc_nil
theorem rd_core {l : List Int} (h : Rd l) : Rd (core l) := by
  obtain ⟨p, h1, _⟩ := core_spec l
  rw [h1] at h
  exact rd_right (rd_left h)
theorem core_mem {l : List Int} {x : Int} (h : x ∈ core l) : x ∈ l := by
  obtain ⟨p, h1, _⟩ := core_spec l
  rw [h1]
  simp [h]
theorem core_len (l : List Int) : ∃ k, l.length = 2 * k + (core l).length := by
  obtain ⟨p, h1, _⟩ := core_spec l
  refine ⟨p.length, ?_⟩
  have := congrArg List.length h1
  simp [inv_len] at this
  omega
/-! turned -/
def Rot (b m : List Int) : Prop := ∃ u v, b = u ++ v ∧ m = v ++ u
theorem Rot.refl (b : List Int) : Rot b b := ⟨[], b, rfl, by simp⟩
theorem Rot.trans {a b c : List Int} (h1 : Rot a b) (h2 : Rot b c) : Rot a c := by
  obtain ⟨u, v, rfl, rfl⟩ := h1
  obtain ⟨u', v', h3, rfl⟩ := h2
  rcases List.append_eq_append_iff.mp h3 with ⟨t, e1, e2⟩ | ⟨t, e1, e2⟩
  · subst e1; subst e2
    exact ⟨t, v' ++ v, by simp, by simp⟩
  · subst e1; subst e2
    exact ⟨u ++ u', t, by simp, by simp⟩
theorem rot1 {w : List Int} (x : Int) (hw : Rd w) : Rot (core w) (core (red (x :: (w ++ [-x])))) := by
  obtain ⟨p, h1, h2⟩ := core_spec w
  generalize core w = b at h1 h2
  cases p with
  | cons y p =>
    have e0 : w = y :: ((p ++ b ++ inv p) ++ [-y]) := by rw [h1, inv_cons]; simp
    have hm : Rd (p ++ b ++ inv p) := by
      rw [e0] at hw
      exact rd_left (rd_tail hw)
    by_cases e : x = -y
    · have ey : y = -x := by omega
      have e3 : red (x :: (w ++ [-x])) = p ++ b ++ inv p := by
        rw [e0, ey]
        have : x :: (-x :: (p ++ b ++ inv p ++ [- -x]) ++ [-x]) = [] ++ x :: -x :: ((p ++ b ++ inv p) ++ x :: -x :: []) := by simp
        rw [this, red_cancel, List.nil_append, red_cancel, List.append_nil, red_of hm]
      rw [e3, core_is rfl h2]
      exact Rot.refl _
    · have hr : Rd (x :: (w ++ [-x])) := by
        rw [← List.cons_append]
        refine rd_append.mpr ⟨by rw [e0] at hw ⊢; exact ⟨e, hw⟩, trivial, fun a c ha hc => ?_⟩
        simp at hc
        subst hc
        rw [e0] at ha
        have : (x :: y :: (p ++ b ++ inv p ++ [-y])).getLast? = some (-y) := by
          rw [List.getLast?_cons_cons, last_ends]
        rw [this] at ha
        simp at ha
        omega
      rw [red_of hr, core_is (p := x :: y :: p) (b := b) (by rw [inv_cons, h1]; simp) h2]
      exact Rot.refl _
  | nil =>
    have e0 : w = b := by simpa [inv] using h1
    subst e0
    cases w with
    | nil =>
      have : red (x :: ([] ++ [-x])) = [] := red_cancel [] [] x
      rw [this, core_nil]
      exact Rot.refl _
    | cons y r =>
      by_cases e : x = -y
      · have ey : -x = y := by omega
        have e3 : red (x :: (y :: r ++ [-x])) = red (r ++ [y]) := by
          rw [ey]
          have e5 : x :: (y :: r ++ [y]) = [] ++ x :: -x :: (r ++ [y]) := by rw [ey]; simp
          rw [e5, red_cancel, List.nil_append]
        have hr : Rd (r ++ [y]) := by
          refine rd_append.mpr ⟨rd_tail hw, trivial, fun a c ha hc => ?_⟩
          simp at hc
          subst hc
          cases r with
          | nil => simp at ha
          | cons z r =>
            have := h2 y a (by simp) rfl (by rw [List.getLast?_cons_cons]; exact ha)
            omega
        have hc : Cyc (r ++ [y]) := fun a c hl ha hc => by
          cases r with
          | nil => simp at hl
          | cons z r =>
            simp at ha
            subst ha
            rw [List.cons_append, last_ends] at hc
            simp at hc
            subst hc
            have := hw.1
            omega
        rw [e3, red_of hr, core_of hc]
        exact ⟨[y], r, rfl, rfl⟩
      · by_cases el : (y :: r).getLast? = some x
        · obtain ⟨s, es⟩ : ∃ s, y :: r = s ++ [x] := by
            refine ⟨(y :: r).dropLast, ?_⟩
            have h5 : (y :: r).getLast (by simp) = x := by
              rw [List.getLast?_eq_some_getLast (by simp)] at el
              exact Option.some.inj el
            rw [← h5, List.dropLast_concat_getLast]
          have e3 : red (x :: (y :: r ++ [-x])) = red (x :: s) := by
            rw [es]
            have : x :: (s ++ [x] ++ [-x]) = (x :: s) ++ x :: -x :: [] := by simp
            rw [this, red_cancel, List.append_nil]
          have hr : Rd (x :: s) := by
            cases s with
            | nil => trivial
            | cons z s =>
              have ez : y = z := by simp at es; exact es.1
              subst ez
              refine ⟨e, ?_⟩
              rw [es] at hw
              exact rd_left hw
          have hc : Cyc (x :: s) := fun a c hl ha hc => by
            simp at ha
            subst ha
            cases s with
            | nil => simp at hl
            | cons z s =>
              rw [List.getLast?_cons_cons] at hc
              rw [es] at hw
              have := (rd_append.mp hw).2.2 c x hc rfl
              omega
          rw [e3, red_of hr, core_of hc, es]
          exact ⟨s, [x], rfl, rfl⟩
        · have hr : Rd (x :: (y :: r ++ [-x])) := by
            rw [← List.cons_append]
            refine rd_append.mpr ⟨⟨e, hw⟩, trivial, fun a c ha hc => ?_⟩
            simp at hc
            subst hc
            rw [List.getLast?_cons_cons] at ha
            intro q
            have : a = x := by omega
            subst this
            exact el ha
          rw [red_of hr, core_is (p := [x]) (b := y :: r) (by rw [inv_cons]; simp [inv]) h2]
          exact Rot.refl _
theorem core_conj : ∀ (o w : List Int), Rot (core (red w)) (core (red (o ++ w ++ inv o)))
  | [], w => by rw [inv_nil, List.append_nil, List.nil_append]; exact Rot.refl _
  | x :: o, w => by
    have e : red (x :: o ++ w ++ inv (x :: o)) = red (x :: (red (o ++ w ++ inv o) ++ [-x])) := by
      have e1 : x :: o ++ w ++ inv (x :: o) = [x] ++ (o ++ w ++ inv o) ++ [-x] := by rw [inv_cons]; simp
      have e2 : x :: (red (o ++ w ++ inv o) ++ [-x]) = [x] ++ red (o ++ w ++ inv o) ++ [-x] := by simp
      rw [e1, e2]
      exact red_congr _ _ (red_red _).symm
    rw [e]
    exact (core_conj o w).trans (rot1 x (rd_red _))
theorem rep_head {b : List Int} (n : Nat) : (rep (n + 1) b).head? = b.head? := by
  rw [rep_succ]
  cases b with
  | nil => rw [rep_nil]; rfl
  | cons x b => rfl
theorem rd_rep {b : List Int} (h : Rd b) (hc : Cyc b) (h0 : ∀ x ∈ b, x ≠ 0) : ∀ n, Rd (rep n b)
  | 0 => trivial
  | n + 1 => by
    rw [rep_succ]
    refine rd_append.mpr ⟨h, rd_rep h hc h0 n, fun x y hx hy => ?_⟩
    cases n with
    | zero => simp [rep] at hy
    | succ n =>
      rw [rep_head] at hy
      cases b with
      | nil => simp at hx
      | cons z b =>
        simp at hy
        subst hy
        cases b with
        | nil =>
          simp at hx
          subst hx
          have := h0 z (by simp)
          omega
        | cons v b =>
          have := hc z x (by simp) rfl hx
          omega
theorem rep_last {b : List Int} : ∀ (n : Nat), (rep (n + 1) b).getLast? = b.getLast?
  | 0 => by simp [rep]
  | n + 1 => by
    rw [rep_succ, List.getLast?_append, rep_last n]
    cases b with
    | nil => rfl
    | cons x b => simp
theorem rd_power {p b : List Int} (hr : Rd (p ++ b ++ inv p)) (hc : Cyc b) (h0 : ∀ x ∈ b, x ≠ 0) (hb : b ≠ []) (n : Nat) : Rd (p ++ rep (n + 1) b ++ inv p) := by
  have h1 := rd_append.mp hr
  have h2 := rd_append.mp h1.1
  have hn : rep (n + 1) b ≠ [] := by
    rw [rep_succ]; intro z
    exact hb (List.append_eq_nil_iff.mp z).1
  refine rd_append.mpr ⟨rd_append.mpr ⟨h2.1, rd_rep h2.2.1 hc h0 _, fun x y hx hy => ?_⟩, h1.2.1, fun x y hx hy => ?_⟩
  · rw [rep_head] at hy
    exact h2.2.2 x y hx hy
  · refine h1.2.2 x y ?_ hy
    rw [List.getLast?_append] at hx ⊢
    rw [rep_last] at hx
    exact hx
/-- the shortened power -/
theorem red_power {l : List Int} (h0 : ∀ x ∈ l, x ≠ 0) (n : Nat) : ∃ p, red l = p ++ core (red l) ++ inv p ∧ red (rep (n + 1) l) = p ++ rep (n + 1) (core (red l)) ++ inv p := by
  obtain ⟨p, h1, h2⟩ := core_spec (red l)
  refine ⟨p, h1, ?_⟩
  have h3 : red (rep (n + 1) l) = red (rep (n + 1) (p ++ core (red l) ++ inv p)) := red_rep (by rw [← h1, red_red]) _
  rw [h3, red_rep_conj]
  by_cases hb : core (red l) = []
  · rw [hb] at h1 ⊢
    rw [rep_nil]
    have : red l = [] := by
      have e : red (red l) = [] := by
        rw [h1]
        have := red_inv_right p []
        rw [List.append_nil] at this
        rw [List.append_nil, this]; rfl
      rwa [red_red] at e
    rw [← h1, this]; rfl
  · exact red_of (rd_power (by rw [← h1]; exact rd_red l) h2 (fun x hx => h0 x (red_mem (core_mem hx))) hb n)
end WM
namespace WM
open TL L2
section
variable {α β S : Type}
theorem mFor_inv {f : α → S → (S → Prop) → Prop} (I : List α → S → Prop) : ∀ {xs : List α} {s : S} {K : S → Prop}, I xs s → (∀ x r s (K : S → Prop), I (x :: r) s → (∀ s', I r s' → K s') → f x s K) → (∀ s, I [] s → K s) → mFor xs f s K
  | [], s, K, h, _, hk => hk s h
  | x :: r, s, K, h, hs, hk => hs x r s _ h fun s' h' => mFor_inv I h' hs hk
/-- .. by the items' number -/
theorem mFor_n {f : α → S → (S → Prop) → Prop} (I : Nat → S → Prop) {xs : List α} {s : S} {K : S → Prop} (h0 : I 0 s) (hs : ∀ n x s (K : S → Prop), n < xs.length → x ∈ xs → I n s → (∀ s', I (n + 1) s' → K s') → f x s K) (hk : ∀ s, I xs.length s → K s) : mFor xs f s K := by
  refine mFor_inv (fun r s => r.length ≤ xs.length ∧ (∀ x ∈ r, x ∈ xs) ∧ I (xs.length - r.length) s) ⟨Nat.le_refl _, fun _ h => h, by rw [Nat.sub_self]; exact h0⟩ (fun x r s K ⟨h1, h2, h3⟩ hk => ?_) (fun s ⟨_, _, h⟩ => hk s h)
  simp at h1
  refine hs _ x s K (by simp; omega) (h2 x List.mem_cons_self) h3 fun s' h' => hk s' ⟨by omega, fun y hy => h2 y (List.mem_cons_of_mem _ hy), ?_⟩
  have : xs.length - (x :: r).length + 1 = xs.length - r.length := by simp; omega
  rw [← this]; exact h'
/-- .. the turn told as what the mirror asks -/
theorem mWhile_of {t : S → (Bool → S → Prop) → Prop} {f : S → (S → Prop) → Prop} (I : S → Prop) (μ : S → Nat) {s : S} {K : S → Prop} (h0 : I s) (h : ∀ s (N : S → Prop), I s → (∀ s2, I s2 → μ s2 < μ s → N s2) → t s fun b s1 => if b = true then f s1 N else K s1) : mWhile t f s K :=
  ⟨fun n s => I s ∧ μ s = n, ⟨_, h0, rfl⟩, fun n s ⟨h1, h2⟩ => h s _ h1 fun s2 q1 q2 => ⟨μ s2, by omega, q1, rfl⟩⟩
theorem mMap_det {f : α → (β → Prop) → Prop} (g : α → β) : ∀ {xs : List α} {K : List β → Prop}, (∀ x ∈ xs, ∀ K : β → Prop, K (g x) → f x K) → K (xs.map g) → mMap xs f K
  | [], K, _, h => h
  | x :: xs, K, hf, h => hf x List.mem_cons_self _ (mMap_det g (fun y hy => hf y (List.mem_cons_of_mem _ hy)) h)
theorem mMapIf_det {t : α → (Bool → Prop) → Prop} {f : α → (β → Prop) → Prop} (p : α → Bool) (g : α → β) : ∀ {xs : List α} {K : List β → Prop}, (∀ x ∈ xs, ∀ K : Bool → Prop, K (p x) → t x K) → (∀ x ∈ xs, p x = true → ∀ K : β → Prop, K (g x) → f x K) → K ((xs.filter p).map g) → mMapIf xs t f K
  | [], K, _, _, h => h
  | x :: xs, K, ht, hf, h => by
    refine ht x List.mem_cons_self _ ?_
    by_cases e : p x = true
    · rw [if_pos e]
      refine hf x List.mem_cons_self e _ (mMapIf_det p g (fun y hy => ht y (List.mem_cons_of_mem _ hy)) (fun y hy => hf y (List.mem_cons_of_mem _ hy)) ?_)
      rw [List.filter_cons_of_pos e] at h
      exact h
    · rw [if_neg e]
      refine mMapIf_det p g (fun y hy => ht y (List.mem_cons_of_mem _ hy)) (fun y hy => hf y (List.mem_cons_of_mem _ hy)) ?_
      rw [List.filter_cons_of_neg e] at h
      exact h
theorem rangeL_mem {lo hi i : Int} : i ∈ rangeL lo hi ↔ lo ≤ i ∧ i < hi := by
  unfold rangeL
  simp only [List.mem_map, List.mem_range]
  constructor
  · rintro ⟨n, h, rfl⟩; omega
  · rintro ⟨h1, h2⟩; exact ⟨(i - lo).toNat, by omega, by omega⟩
theorem mIf_of {b : Bool} {f g : (S → Prop) → Prop} {k : S → Prop} (P : S → Prop) (h1 : b = true → ∀ K : S → Prop, (∀ s, P s → K s) → f K) (h2 : b = false → ∀ K : S → Prop, (∀ s, P s → K s) → g K) (hk : ∀ s, P s → k s) : mIf b f g k := by
  unfold mIf
  cases b with
  | true => exact h1 rfl _ hk
  | false => exact h2 rfl _ hk
/-! places -/
theorem pyAt_nat {xs : List α} {i : Int} (h0 : 0 ≤ i) (h1 : i < xs.length) : pyAt xs i = xs[i.toNat]? := by
  unfold pyAt atI ixN
  rw [if_pos h0, if_pos h1]; rfl
theorem pyAt_get {xs : List α} {i : Int} (h0 : 0 ≤ i) (h1 : i < xs.length) : ∃ y, pyAt xs i = some y ∧ xs[i.toNat]? = some y := by
  rw [pyAt_nat h0 h1]
  exact ⟨xs[i.toNat]'(by omega), List.getElem?_eq_getElem (by omega), List.getElem?_eq_getElem (by omega)⟩
theorem pyAt_last {xs : List α} : pyAt xs (-(1 : Int)) = xs.getLast? := by
  unfold pyAt atI ixN
  rw [if_neg (by omega), List.getLast?_eq_getElem?]
  cases xs with
  | nil => rfl
  | cons x xs =>
    rw [if_pos (by simp; omega)]
    show (x :: xs)[((-(1:Int)) + ((x :: xs).length : Int)).toNat]? = _
    congr 1
    simp
    omega
theorem pyAt_zero {xs : List α} : pyAt xs 0 = xs.head? := by
  cases xs with
  | nil => rfl
  | cons x xs => rw [pyAt_nat (by omega) (by simp)]; rfl
theorem pyCut_take {xs : List α} {i : Int} (h0 : 0 ≤ i) : pyCut xs none (some i) = xs.take i.toNat := by
  unfold pyCut
  rw [HT.sIx_none]
  have : HT.sIx xs.length xs.length (some i) = min i.toNat xs.length := by
    have := HT.sIx_nat xs.length xs.length i.toNat
    rwa [Int.toNat_of_nonneg h0] at this
  rw [this, List.drop_zero, Nat.sub_zero]
  by_cases h : i.toNat ≤ xs.length
  · rw [Nat.min_eq_left h]
  · rw [Nat.min_eq_right (by omega), List.take_of_length_le (Nat.le_refl _), List.take_of_length_le (by omega)]
theorem pyCut_drop {xs : List α} {i : Int} (h0 : 0 ≤ i) : pyCut xs (some i) none = xs.drop i.toNat := by
  unfold pyCut
  rw [HT.sIx_none]
  have : HT.sIx xs.length 0 (some i) = min i.toNat xs.length := by
    have := HT.sIx_nat xs.length 0 i.toNat
    rwa [Int.toNat_of_nonneg h0] at this
  rw [this]
  by_cases h : i.toNat ≤ xs.length
  · rw [Nat.min_eq_left h, List.take_of_length_le (by simp)]
  · rw [Nat.min_eq_right (by omega), Nat.sub_self, List.take_zero]
    exact (List.drop_of_length_le (by omega)).symm
theorem pyCut_mid {xs : List α} {i j : Int} (h0 : 0 ≤ i) (h1 : i ≤ j) (h2 : j ≤ xs.length) : pyCut xs (some i) (some j) = (xs.drop i.toNat).take (j.toNat - i.toNat) := by
  unfold pyCut
  have e1 : HT.sIx xs.length 0 (some i) = min i.toNat xs.length := by
    have := HT.sIx_nat xs.length 0 i.toNat
    rwa [Int.toNat_of_nonneg h0] at this
  have e2 : HT.sIx xs.length xs.length (some j) = min j.toNat xs.length := by
    have := HT.sIx_nat xs.length xs.length j.toNat
    rwa [Int.toNat_of_nonneg (by omega)] at this
  rw [e1, e2, Nat.min_eq_left (by omega), Nat.min_eq_left (by omega)]
/-- l[1:-1] -/
theorem pyCut_ends {xs : List α} (h : 1 < xs.length) : pyCut xs (some (1 : Int)) (some (-(1 : Int))) = xs.tail.dropLast := by
  unfold pyCut
  have e1 : HT.sIx xs.length 0 (some (1 : Int)) = 1 := by
    have := HT.sIx_nat xs.length 0 1
    rw [Nat.min_eq_left (by omega)] at this
    exact this
  have e2 : HT.sIx xs.length xs.length (some (-(1 : Int))) = xs.length - 1 := by
    show (if (-(1 : Int)) < 0 then (-(1 : Int) + (xs.length : Int)).toNat else min (-(1 : Int)).toNat xs.length) = _
    rw [if_pos (by omega)]
    omega
  rw [e1, e2, List.drop_one, List.dropLast_eq_take, List.length_tail]
end
/-! the jar -/
def JOk (n : Nat) (t : Jar) : Prop := 0 ≤ t.2.1 ∧ t.2.1 ≤ n
theorem JOk.mono {n m : Nat} {t : Jar} (h : JOk n t) (hm : n ≤ m) : JOk m t := ⟨h.1, by have := h.2; omega⟩
end WM
namespace WM
open PySem TL
/-- the order of tuples of whole numbers -/
def ltL : List Int → List Int → Bool
  | [], [] => false
  | [], _ :: _ => true
  | _ :: _, [] => false
  | x :: a, y :: b => if x = y then ltL a b else decide (x < y)
theorem ltL_data : ∀ a b : List Int, PySem.W.dataLt (datT a) (datT b) = ltL a b := by
  have go : ∀ a b : List Int, PyProof.Rows.lexLt PyProof.Rows.itemOrd (PySem.W.keyToksAll (a.map PyData.int)) (PySem.W.keyToksAll (b.map PyData.int)) = ltL a b := by
    intro a
    induction a with
    | nil =>
      intro b
      cases b with
      | nil => rfl
      | cons y b => rfl
    | cons x a ih =>
      intro b
      cases b with
      | nil => rfl
      | cons y b =>
        show PyProof.Rows.lexLt PyProof.Rows.itemOrd (Sum.inl 1 :: ([Sum.inl x] ++ _)) (Sum.inl 1 :: ([Sum.inl y] ++ _)) = _
        have e1 := PySem.W.lex_pre [Sum.inl 1] ([Sum.inl x] ++ PySem.W.keyToksAll (a.map PyData.int)) ([Sum.inl y] ++ PySem.W.keyToksAll (b.map PyData.int))
        refine e1.trans ?_
        by_cases h : x = y
        · subst h
          rw [PySem.W.lex_pre, ih]
          simp [ltL]
        · have hne : (Sum.inl x : Int ⊕ List Nat) ≠ Sum.inl y := fun e => h (Sum.inl.inj e)
          have e2 := PySem.W.lex_atom hne (PySem.W.keyToksAll (a.map PyData.int)) (PySem.W.keyToksAll (b.map PyData.int))
          refine e2.trans ?_
          rw [show ltL (x :: a) (y :: b) = decide (x < y) from if_neg h]
          exact (PyProof.Rows.lex_diff (O := PyProof.Rows.itemOrd) hne).trans rfl
  intro a b
  exact go a b
theorem ltL_irrefl : ∀ a : List Int, ltL a a = false
  | [] => rfl
  | x :: a => by simp [ltL, ltL_irrefl a]
theorem ltL_trans : ∀ a b c : List Int, ltL a b = true → ltL b c = true → ltL a c = true
  | [], [], c, h, _ => by simp [ltL] at h
  | [], _ :: _, [], _, h => by simp [ltL] at h
  | [], _ :: _, _ :: _, _, _ => rfl
  | _ :: _, [], _, h, _ => by simp [ltL] at h
  | _ :: _, _ :: _, [], _, h => by simp [ltL] at h
  | x :: a, y :: b, z :: c, h1, h2 => by
    simp only [ltL] at *
    by_cases e1 : x = y
    · subst e1
      rw [if_pos rfl] at h1
      by_cases e2 : x = z
      · rw [if_pos e2] at h2 ⊢
        exact ltL_trans a b c h1 h2
      · rw [if_neg e2] at h2 ⊢
        exact h2
    · rw [if_neg e1] at h1
      have h1 := of_decide_eq_true h1
      by_cases e2 : y = z
      · subst e2
        rw [if_neg e1]
        exact decide_eq_true h1
      · rw [if_neg e2] at h2
        have h2 := of_decide_eq_true h2
        rw [if_neg (by omega)]
        exact decide_eq_true (by omega)
theorem ltL_conn : ∀ a b : List Int, ltL a b = false → ltL b a = false → a = b
  | [], [], _, _ => rfl
  | [], _ :: _, h, _ => by simp [ltL] at h
  | _ :: _, [], _, h => by simp [ltL] at h
  | x :: a, y :: b, h1, h2 => by
    simp only [ltL] at *
    by_cases e : x = y
    · subst e
      rw [if_pos rfl] at h1 h2
      rw [ltL_conn a b h1 h2]
    · rw [if_neg e] at h1
      rw [if_neg (fun q => e q.symm)] at h2
      have h1 := of_decide_eq_false h1
      have h2 := of_decide_eq_false h2
      omega
theorem least_le {xs : List (List Int)} {m : List Int} (h : leastD datT xs = some m) : ∀ y ∈ xs, ltL y m = false := by
  cases xs with
  | nil => cases h
  | cons x xs =>
    have go : ∀ (l : List (List Int)) (a : List Int) (P : List Int → Prop), (∀ y, P y → ltL y a = false) → P a → ∀ y, (P y ∨ y ∈ l) → ltL y (l.foldl (fun a y => if PySem.W.dataLt (datT y) (datT a) then y else a) a) = false := by
      intro l
      induction l with
      | nil =>
        intro a P h _ y hy
        rcases hy with hy | hy
        · exact h y hy
        · cases hy
      | cons z l ih =>
        intro a P h ha y hy
        rw [List.foldl_cons]
        rw [ltL_data]
        by_cases e : ltL z a = true
        · rw [if_pos e]
          refine ih z (fun y => P y ∨ y = z) (fun y hy => ?_) (.inr rfl) y ?_
          · rcases hy with hy | hy
            · cases q : ltL y z with
              | false => rfl
              | true =>
                have := ltL_trans y z a q e
                rw [h y hy] at this
                cases this
            · subst hy; exact ltL_irrefl _
          · rcases hy with hy | hy
            · exact .inl (.inl hy)
            · rcases List.mem_cons.mp hy with hy | hy
              · exact .inl (.inr hy)
              · exact .inr hy
        · rw [if_neg e]
          have e : ltL z a = false := by simpa using e
          refine ih a (fun y => P y ∨ y = z) (fun y hy => ?_) (.inl ha) y ?_
          · rcases hy with hy | hy
            · exact h y hy
            · subst hy; exact e
          · rcases hy with hy | hy
            · exact .inl (.inl hy)
            · rcases List.mem_cons.mp hy with hy | hy
              · exact .inl (.inr hy)
              · exact .inr hy
    have hm : xs.foldl (fun a y => if PySem.W.dataLt (datT y) (datT a) then y else a) x = m := Option.some.inj h
    intro y hy
    rw [← hm]
    refine go xs x (fun y => y = x) (fun y e => by rw [e]; exact ltL_irrefl _) rfl y ?_
    rcases List.mem_cons.mp hy with hy | hy
    · exact .inl hy
    · exact .inr hy
theorem least_same {xs ys : List (List Int)} (h : ∀ z, z ∈ xs ↔ z ∈ ys) : leastD datT xs = leastD datT ys := by
  cases xs with
  | nil =>
    cases ys with
    | nil => rfl
    | cons y ys => exact absurd ((h y).mpr List.mem_cons_self) (by simp)
  | cons x xs =>
    cases ys with
    | nil => exact absurd ((h x).mp List.mem_cons_self) (by simp)
    | cons y ys =>
      obtain ⟨m, hm⟩ : ∃ m, leastD datT (x :: xs) = some m := ⟨_, rfl⟩
      obtain ⟨n, hn⟩ : ∃ n, leastD datT (y :: ys) = some n := ⟨_, rfl⟩
      rw [hm, hn]
      congr 1
      exact ltL_conn _ _ (least_le hn _ ((h _).mp (leastD_mem hm))) (least_le hm _ ((h _).mpr (leastD_mem hn)))
/-! rotations -/
def rot (k : Nat) (l : List Int) : List Int := l.drop k ++ l.take k
theorem rot_len (k : Nat) (l : List Int) : (rot k l).length = l.length := by
  unfold rot
  rw [List.length_append, List.length_drop, List.length_take]; omega
theorem rot_rot (k : Nat) (l : List Int) : Rot l (rot k l) := ⟨l.take k, l.drop k, (List.take_append_drop _ _).symm, rfl⟩
theorem Rot.sym {a b : List Int} (h : Rot a b) : Rot b a := by
  obtain ⟨u, v, rfl, rfl⟩ := h
  exact ⟨v, u, rfl, rfl⟩
theorem Rot.len {a b : List Int} (h : Rot a b) : a.length = b.length := by
  obtain ⟨u, v, rfl, rfl⟩ := h
  rw [List.length_append, List.length_append, Nat.add_comm]
theorem Rot.ex {a b : List Int} (h : Rot a b) : ∃ k, k < max 1 a.length ∧ rot k a = b := by
  obtain ⟨u, v, rfl, rfl⟩ := h
  by_cases hv : v = []
  · subst hv
    exact ⟨0, by omega, by simp [rot]⟩
  · have := List.length_pos_iff.mpr hv
    exact ⟨u.length, by rw [List.length_append]; omega, by simp [rot]⟩
def forms (l : List Int) : List (List Int) := (List.range (max 1 l.length)).map fun k => rot k l
theorem forms_mem {l m : List Int} : m ∈ forms l ↔ Rot l m := by
  unfold forms
  rw [List.mem_map]
  constructor
  · rintro ⟨k, _, rfl⟩; exact rot_rot k l
  · intro h
    obtain ⟨k, h1, h2⟩ := h.ex
    exact ⟨k, List.mem_range.mpr h1, h2⟩
theorem least_rot {a b : List Int} (h : Rot a b) : leastD datT (forms a) = leastD datT (forms b) :=
  least_same fun z => by
    rw [forms_mem, forms_mem]
    exact ⟨fun q => h.sym.trans q, fun q => h.trans q⟩
theorem rot_mem {k : Nat} {l : List Int} {x : Int} (h : x ∈ rot k l) : x ∈ l := by
  unfold rot at h
  rcases List.mem_append.mp h with h | h
  · exact List.mem_of_mem_drop h
  · exact List.mem_of_mem_take h
theorem rot_one {k : Nat} {l : List Int} (h : k < l.length) : (rot k l).drop 1 ++ (rot k l).take 1 = rot (k + 1) l := by
  unfold rot
  have e : l.drop k = l[k] :: l.drop (k + 1) := (List.getElem_cons_drop h).symm
  have e2 : l.take (k + 1) = l.take k ++ [l[k]] := by rw [List.take_succ_eq_append_getElem h]
  rw [e, e2]
  simp only [List.cons_append, List.drop_succ_cons, List.drop_zero, List.take_succ_cons, List.take_zero, List.append_assoc]
end WM
/-! words put for letters -/
namespace WM
open PySem TL
def sub (σ : Int → List Int) (l : List Int) : List Int := l.flatMap σ
theorem sub_nil (σ : Int → List Int) : sub σ [] = [] := rfl
theorem sub_cons (σ : Int → List Int) (x : Int) (l : List Int) : sub σ (x :: l) = σ x ++ sub σ l := by simp [sub]
theorem sub_app (σ : Int → List Int) (a b : List Int) : sub σ (a ++ b) = sub σ a ++ sub σ b := by simp [sub]
def Mor (σ : Int → List Int) : Prop := ∀ x, x ≠ 0 → σ (-x) = inv (σ x)
theorem sub_inv {σ : Int → List Int} (h : Mor σ) : ∀ {l : List Int}, (∀ x ∈ l, x ≠ 0) → sub σ (inv l) = inv (sub σ l)
  | [], _ => rfl
  | x :: l, h0 => by
    rw [inv_cons, sub_app, sub_cons, sub_cons, inv_app, sub_inv h (fun y hy => h0 y (List.mem_cons_of_mem _ hy)), h x (h0 x List.mem_cons_self), sub_nil, List.append_nil]
theorem red_sub_push {σ : Int → List Int} (h : Mor σ) {x : Int} (hx : x ≠ 0) : ∀ r : List Int, red (sub σ (push x r)) = red (σ x ++ sub σ r)
  | [] => by
    show red (sub σ [x]) = _
    rw [sub_cons]
  | y :: r => by
    rw [push_cons]
    split
    · rename_i e
      have e2 : y = -x := by omega
      rw [sub_cons, e2, h x hx, red_inv_right]
    · rw [sub_cons]
theorem red_sub {σ : Int → List Int} (h : Mor σ) : ∀ {l : List Int}, (∀ x ∈ l, x ≠ 0) → red (sub σ (red l)) = red (sub σ l)
  | [], _ => rfl
  | x :: l, h0 => by
    rw [red_cons, red_sub_push h (h0 x List.mem_cons_self), sub_cons, ← red_app_red, red_sub h (fun y hy => h0 y (List.mem_cons_of_mem _ hy)), red_app_red]
theorem red_sub2 {σ τ : Int → List Int} : ∀ {l : List Int}, (∀ x ∈ l, red (σ x) = red (τ x)) → red (sub σ l) = red (sub τ l)
  | [], _ => rfl
  | x :: l, h => by
    rw [sub_cons, sub_cons]
    exact red_congr2 (h x List.mem_cons_self) (red_sub2 fun y hy => h y (List.mem_cons_of_mem _ hy))
theorem sub_congr {σ τ : Int → List Int} : ∀ {l : List Int}, (∀ x ∈ l, σ x = τ x) → sub σ l = sub τ l
  | [], _ => rfl
  | x :: l, h => by
    rw [sub_cons, sub_cons, h x List.mem_cons_self, sub_congr fun y hy => h y (List.mem_cons_of_mem _ hy)]
theorem sub_sub (σ τ : Int → List Int) : ∀ l : List Int, sub σ (sub τ l) = sub (fun x => sub σ (τ x)) l
  | [] => rfl
  | x :: l => by rw [sub_cons, sub_cons, sub_app, sub_sub σ τ l]
theorem sub_map (f : Int → Int) : ∀ l : List Int, sub (fun x => [f x]) l = l.map f
  | [] => rfl
  | x :: l => by rw [sub_cons, sub_map f l]; rfl
theorem sub_id (l : List Int) : sub (fun x => [x]) l = l := by
  rw [sub_map (fun x => x)]; simp
theorem sub_len {σ : Int → List Int} {n : Nat} : ∀ {l : List Int}, (∀ x ∈ l, (σ x).length ≤ n) → (sub σ l).length ≤ l.length * n
  | [], _ => Nat.zero_le _
  | x :: l, h => by
    rw [sub_cons, List.length_append, List.length_cons, Nat.add_mul]
    have := h x List.mem_cons_self
    have := sub_len fun y hy => h y (List.mem_cons_of_mem x hy)
    omega
theorem sub_mem {σ : Int → List Int} {l : List Int} {y : Int} : y ∈ sub σ l ↔ ∃ x ∈ l, y ∈ σ x := by simp [sub]
theorem inv_mem {l : List Int} {x : Int} : x ∈ inv l ↔ -x ∈ l := by
  unfold inv
  rw [List.mem_map]
  constructor
  · rintro ⟨y, hy, rfl⟩
    have e : - -y = y := by omega
    rw [e]
    exact List.mem_reverse.mp hy
  · intro h
    exact ⟨-x, List.mem_reverse.mpr h, by omega⟩
/-- a word put for a kind -/
def pk (k : Int) (o : List Int) (x : Int) : List Int := if (x.natAbs : Int) = k then (if 0 < x then o else inv o) else [x]
theorem pk_mor (k : Int) (o : List Int) : Mor (pk k o) := fun x hx => by
  unfold pk
  rw [Int.natAbs_neg]
  split
  · by_cases h : 0 < x
    · rw [if_neg (by omega), if_pos h]
    · rw [if_pos (by omega), if_neg h, inv_inv]
  · rfl
theorem pk_self (k : Int) (x : Int) (h0 : x ≠ 0) : pk k [k] x = [x] := by
  unfold pk
  split
  · rename_i e
    split
    · congr 1; omega
    · show [-k] = [x]
      congr 1; omega
  · rfl
theorem pk_len {k : Int} {o : List Int} {n : Nat} (h1 : 1 ≤ n) (h : o.length ≤ n) (x : Int) : (pk k o x).length ≤ n := by
  unfold pk
  split
  · split
    · exact h
    · rw [inv_len]; exact h
  · simpa using h1
/-- words put for kinds, by a function -/
def lk (g : Int → List Int) (x : Int) : List Int := if 0 < x then g x.natAbs else inv (g x.natAbs)
theorem lk_mor (g : Int → List Int) : Mor (lk g) := fun x hx => by
  unfold lk
  rw [Int.natAbs_neg]
  by_cases h : 0 < x
  · rw [if_neg (by omega), if_pos h]
  · rw [if_pos (by omega), if_neg h, inv_inv]
theorem lk_len {g : Int → List Int} {n : Nat} {x : Int} (h : (g x.natAbs).length ≤ n) : (lk g x).length ≤ n := by
  unfold lk
  split
  · exact h
  · rw [inv_len]; exact h
theorem lk_pk (k : Int) (o : List Int) {x : Int} (hx : x ≠ 0) : lk (fun j => if j = k then o else [j]) x = pk k o x := by
  unfold lk pk
  dsimp only
  by_cases h : (x.natAbs : Int) = k
  · simp only [if_pos h]
  · simp only [if_neg h]
    split
    · congr 1; omega
    · show [-(x.natAbs : Int)] = [x]
      congr 1; omega
/-- letters put for kinds -/
def rf (g : Int → Int) (x : Int) : Int := if 0 < x then g x.natAbs else -(g x.natAbs)
theorem rf_lk (g : Int → Int) (l : List Int) : l.map (rf g) = sub (lk fun k => [g k]) l := by
  rw [← sub_map]
  refine sub_congr fun x _ => ?_
  unfold rf lk
  split
  · rfl
  · rfl
theorem rf_neg (g : Int → Int) {x : Int} (hx : x ≠ 0) : rf g (-x) = -(rf g x) := by
  unfold rf
  rw [Int.natAbs_neg]
  by_cases h : 0 < x
  · rw [if_neg (by omega), if_pos h]
  · rw [if_pos (by omega), if_neg h]; omega
/-! balances -/
def eb (k x : Int) : Int := if x = k then 1 else if x = -k then -1 else 0
def bal (k : Int) : List Int → Int
  | [] => 0
  | x :: l => eb k x + bal k l
theorem bal_app (k : Int) : ∀ a b : List Int, bal k (a ++ b) = bal k a + bal k b
  | [], b => by show bal k b = 0 + bal k b; omega
  | x :: a, b => by
    show eb k x + bal k (a ++ b) = eb k x + bal k a + bal k b
    rw [bal_app k a b]; omega
theorem eb_neg {k x : Int} (hk : 0 < k) : eb k (-x) = -(eb k x) := by
  unfold eb
  split <;> split <;> (try split) <;> (try split) <;> omega
theorem bal_inv {k : Int} (hk : 0 < k) : ∀ l : List Int, bal k (inv l) = -(bal k l)
  | [] => rfl
  | x :: l => by
    rw [inv_cons, bal_app, bal_inv hk l]
    show -(bal k l) + (eb k (-x) + 0) = -(eb k x + bal k l)
    rw [eb_neg hk]; omega
theorem bal_push {k : Int} (hk : 0 < k) (x : Int) : ∀ r : List Int, bal k (push x r) = eb k x + bal k r
  | [] => rfl
  | y :: r => by
    rw [push_cons]
    split
    · rename_i e
      show bal k r = eb k x + (eb k y + bal k r)
      rw [e, eb_neg hk]; omega
    · rfl
theorem bal_red {k : Int} (hk : 0 < k) : ∀ l : List Int, bal k (red l) = bal k l
  | [] => rfl
  | x :: l => by
    rw [red_cons, bal_push hk, bal_red hk l]; rfl
theorem bal_core {k : Int} (hk : 0 < k) (l : List Int) : bal k (core l) = bal k l := by
  obtain ⟨p, h, _⟩ := core_spec l
  have := congrArg (bal k) h
  rw [bal_app, bal_app, bal_inv hk] at this
  omega
theorem bal_rot {k : Int} (n : Nat) (l : List Int) : bal k (rot n l) = bal k l := by
  have := congrArg (bal k) (List.take_append_drop n l)
  rw [bal_app] at this
  unfold rot
  rw [bal_app]; omega
theorem bal_rep (k : Int) (l : List Int) : ∀ n : Nat, bal k (rep n l) = n * bal k l
  | 0 => by rw [rep_zero]; show (0 : Int) = _; simp
  | n + 1 => by
    rw [rep_succ, bal_app, bal_rep k l n]
    rw [show ((n + 1 : Nat) : Int) = n + 1 from rfl, Int.add_mul]; omega
theorem bal_pk1 {j k : Int} (hj : 0 < j) (hk : 0 < k) (o : List Int) {x : Int} (hx : x ≠ 0) : bal j (pk k o x) = (if j = k then 0 else eb j x) + eb k x * bal j o := by
  unfold pk
  by_cases h : (x.natAbs : Int) = k
  · rw [if_pos h]
    have e1 : (if j = k then (0 : Int) else eb j x) = 0 := by
      split
      · rfl
      · unfold eb
        rw [if_neg (by omega), if_neg (by omega)]
    rw [e1]
    by_cases hp : 0 < x
    · rw [if_pos hp]
      have : eb k x = 1 := if_pos (by omega)
      rw [this]; omega
    · rw [if_neg hp, bal_inv hj]
      have : eb k x = -1 := by
        unfold eb
        rw [if_neg (by omega), if_pos (by omega)]
      rw [this]; omega
  · rw [if_neg h]
    have e1 : eb k x = 0 := by
      unfold eb
      rw [if_neg (by omega), if_neg (by omega)]
    rw [e1]
    show eb j x + 0 = _
    split
    · rename_i q
      subst q
      rw [e1]; omega
    · omega
theorem bal_pk {j k : Int} (hj : 0 < j) (hk : 0 < k) (o : List Int) : ∀ {l : List Int}, (∀ x ∈ l, x ≠ 0) → bal j (sub (pk k o) l) = (if j = k then 0 else bal j l) + bal k l * bal j o
  | [], _ => by
    show (0 : Int) = (if j = k then 0 else 0) + 0 * _
    split <;> omega
  | x :: l, h0 => by
    rw [sub_cons, bal_app, bal_pk1 hj hk o (h0 x List.mem_cons_self), bal_pk hj hk o fun y hy => h0 y (List.mem_cons_of_mem _ hy)]
    show _ = (if j = k then 0 else eb j x + bal j l) + (eb k x + bal k l) * bal j o
    rw [Int.add_mul]
    split <;> omega
theorem bal_filter {k : Int} (hk : 0 < k) : ∀ l : List Int, ((l.filter fun x => decide (x = k)).length : Int) - ((l.filter fun x => decide (x = -k)).length : Int) = bal k l
  | [] => rfl
  | x :: l => by
    have ih := bal_filter hk l
    show _ = eb k x + bal k l
    rw [← ih]
    rw [List.filter_cons, List.filter_cons]
    unfold eb
    by_cases h1 : x = k
    · rw [if_pos (decide_eq_true h1), if_neg (by simp; omega), if_pos h1]
      simp only [List.length_cons]; omega
    · rw [if_neg (by simpa using h1), if_neg h1]
      by_cases h2 : x = -k
      · rw [if_pos (decide_eq_true h2), if_pos h2]
        simp only [List.length_cons]; omega
      · rw [if_neg (by simpa using h2), if_neg h2]; omega
/-- the pairs of a balance -/
def bp (f : Int → Int) (k : Int) : List (Int × Int) := if f k ≠ 0 then [(k, f k)] else []
def bd (f : Int → Int) : List (Int × Int) := (rangeL 1 27).flatMap (bp f)
theorem flat_congr {α β : Type} {f g : α → List β} : ∀ {l : List α}, (∀ x ∈ l, f x = g x) → l.flatMap f = l.flatMap g
  | [], _ => rfl
  | x :: l, h => by
    rw [List.flatMap_cons, List.flatMap_cons, h x List.mem_cons_self, flat_congr fun y hy => h y (List.mem_cons_of_mem _ hy)]
theorem bd_congr {f g : Int → Int} (h : ∀ k, 1 ≤ k → k ≤ 26 → f k = g k) : bd f = bd g := by
  unfold bd
  refine flat_congr fun k hk => ?_
  have hk := rangeL_mem.mp hk
  unfold bp
  rw [h k hk.1 (by omega)]
theorem flat_map {α β γ : Type} (f : α → List β) (g : β → γ) : ∀ l : List α, (l.flatMap f).map g = l.flatMap fun x => (f x).map g
  | [] => rfl
  | x :: l => by rw [List.flatMap_cons, List.flatMap_cons, List.map_append, flat_map f g l]
theorem bd_map {f : Int → Int} {u : Int → Int} (h : ∀ z, u z = 0 ↔ z = 0) : (bd f).map (fun p => (p.1, u p.2)) = bd fun k => u (f k) := by
  unfold bd
  rw [flat_map]
  refine flat_congr fun k hk => ?_
  unfold bp
  by_cases e : f k = 0
  · rw [if_neg (by simp [e]), if_neg (by simp [(h _).mpr e])]; rfl
  · rw [if_pos e, if_pos fun q => e ((h _).mp q)]; rfl
theorem bd_zero {f : Int → Int} (h : ∀ k, 1 ≤ k → k ≤ 26 → f k = 0) : bd f = [] := by
  rw [bd_congr h]
  unfold bd
  rw [List.flatMap_eq_nil_iff]
  intro k _
  exact if_neg (by simp)
/-! tables -/
theorem dget_mem {α : Type} {d : List (Int × α)} {k : Int} {v : α} (h : dget d k = some v) : (k, v) ∈ d := by
  induction d with
  | nil => cases h
  | cons p r ih =>
    by_cases e : p.1 = k
    · rw [dget_pos e] at h
      have : p = (k, v) := by rw [← e, ← Option.some.inj h]
      rw [this]; exact List.mem_cons_self
    · rw [dget_neg e] at h
      exact List.mem_cons_of_mem _ (ih h)
theorem dget_of_mem {α : Type} {d : List (Int × α)} {k : Int} {v : α} (hn : (d.map (·.1)).Nodup) (h : (k, v) ∈ d) : dget d k = some v := by
  induction d with
  | nil => cases h
  | cons p r ih =>
    rw [List.map_cons, List.nodup_cons] at hn
    rcases List.mem_cons.mp h with h | h
    · rw [← h]; exact dget_pos rfl
    · rw [dget_neg, ih hn.2 h]
      intro e
      exact hn.1 (by rw [e]; exact List.mem_map.mpr ⟨_, h, rfl⟩)
theorem dget_none {α : Type} {d : List (Int × α)} {k : Int} : dget d k = none ↔ k ∉ d.map (·.1) := by
  induction d with
  | nil => simp [dget_nil]
  | cons p r ih =>
    by_cases e : p.1 = k
    · rw [dget_pos e]; simp [e]
    · rw [dget_neg e, ih]
      simp only [List.map_cons, List.mem_cons, not_or]
      exact ⟨fun h => ⟨fun q => e q.symm, h⟩, fun h => h.2⟩
theorem dget_perm {α : Type} {d e : List (Int × α)} (h : d.Perm e) (hn : (d.map (·.1)).Nodup) (k : Int) : dget d k = dget e k := by
  cases q : dget d k with
  | none =>
    have := dget_none.mp q
    refine (dget_none.mpr fun hh => this ?_).symm
    exact (h.map _).mem_iff.mpr hh
  | some v =>
    exact (dget_of_mem ((h.map _).nodup_iff.mp hn) (h.mem_iff.mp (dget_mem q))).symm
theorem dget_merge {α : Type} (k : Int) : ∀ (e d : List (Int × α)), (e.map (·.1)).Nodup → dget (dmerge d e) k = (dget e k).or (dget d k)
  | [], d, _ => by simp [dmerge, dget_nil]
  | p :: e, d, hn => by
    rw [List.map_cons, List.nodup_cons] at hn
    show dget (dmerge (dput d p.1 p.2) e) k = _
    rw [dget_merge k e _ hn.2, dget_put]
    by_cases q : k = p.1
    · rw [if_pos q, dget_pos q.symm, dget_none.mpr (q ▸ hn.1)]; rfl
    · rw [if_neg q, dget_neg fun w => q w.symm]
theorem dget_dict {α : Type} {e : List (Int × α)} (hn : (e.map (·.1)).Nodup) (k : Int) : dget (dmerge [] e) k = dget e k := by
  rw [dget_merge k e [] hn, dget_nil]; simp
theorem dget_mapv {α β : Type} (u : α → β) (k : Int) : ∀ d : List (Int × α), dget (d.map fun p => (p.1, u p.2)) k = (dget d k).map u
  | [] => rfl
  | p :: r => by
    by_cases e : p.1 = k
    · rw [List.map_cons, dget_pos (p := (p.1, u p.2)) e, dget_pos e]; rfl
    · rw [List.map_cons, dget_neg (p := (p.1, u p.2)) e, dget_neg e, dget_mapv u k r]
theorem bp_keys (f : Int → Int) : ∀ l : List Int, (l.flatMap (bp f)).map (·.1) = l.filter fun k => decide (f k ≠ 0)
  | [] => rfl
  | x :: l => by
    rw [List.flatMap_cons, List.map_append, bp_keys f l, List.filter_cons]
    unfold bp
    by_cases e : f x ≠ 0
    · rw [if_pos e, if_pos (decide_eq_true e)]; rfl
    · rw [if_neg e, if_neg (by simpa using e)]; rfl
theorem rangeL_nodup (a b : Int) : (rangeL a b).Nodup := by
  unfold rangeL
  rw [List.nodup_iff_pairwise_ne, List.pairwise_map]
  exact List.nodup_range.imp fun h q => h (by omega)
theorem bd_keys (f : Int → Int) : ((bd f).map (·.1)).Nodup := by
  unfold bd
  rw [bp_keys]
  exact (rangeL_nodup _ _).filter _
theorem dget_bd (f : Int → Int) {k : Int} (h1 : 1 ≤ k) (h2 : k ≤ 26) : (dget (bd f) k).getD 0 = f k := by
  by_cases e : f k = 0
  · rw [dget_none.mpr, e]; · rfl
    unfold bd
    rw [bp_keys]
    simp [e]
  · rw [dget_of_mem (v := f k) (bd_keys f)]; · rfl
    unfold bd
    rw [List.mem_flatMap]
    refine ⟨k, rangeL_mem.mpr ⟨h1, by omega⟩, ?_⟩
    unfold bp
    rw [if_pos e]
    exact List.mem_cons_self
end WM
/-! words that go past one another: powers of one root -/
namespace WM
theorem rep_add (m n : Nat) (l : List Int) : rep (m + n) l = rep m l ++ rep n l := by
  induction m with
  | zero => simp [rep_zero]
  | succ m ih => rw [Nat.succ_add, rep_succ, ih, rep_succ, List.append_assoc]
theorem rep_one (l : List Int) : rep 1 l = l := by rw [rep_succ, rep_zero, List.append_nil]
theorem rep_succ' (n : Nat) (l : List Int) : rep (n + 1) l = rep n l ++ l := by rw [rep_add, rep_one]
theorem inv_rep (l : List Int) : ∀ n, inv (rep n l) = rep n (inv l)
  | 0 => rfl
  | n + 1 => by rw [rep_succ, inv_app, inv_rep l n, ← rep_succ']
theorem rep_get {d : List Int} : ∀ (k i : Nat), i < k * d.length → (rep k d)[i]? = d[i % d.length]?
  | 0, i, h => by simp at h
  | k + 1, i, h => by
    rw [rep_succ, List.getElem?_append]
    split
    · rename_i hlt
      rw [Nat.mod_eq_of_lt hlt]
    · rename_i hge
      rw [rep_get k (i - d.length) (by rw [Nat.succ_mul] at h; omega), Nat.mod_eq_sub_mod (a := i) (b := d.length) (by omega)]
theorem len_pos {l : List Int} (h : l ≠ []) : 0 < l.length := List.length_pos_iff.mpr h
/-! ### periods -/
def Per (c : List Int) (k : Nat) : Prop := ∀ i, c[(i + k) % c.length]? = c[i % c.length]?
theorem per_self (c : List Int) : Per c c.length := fun i => by rw [Nat.add_mod_right]
theorem per_mul {c : List Int} {k : Nat} (h : Per c k) : ∀ q, Per c (k * q)
  | 0 => fun i => by simp
  | q + 1 => fun i => by rw [Nat.mul_succ, ← Nat.add_assoc, h (i + k * q), per_mul h q i]
theorem per_mod {c : List Int} {m k : Nat} (h : Per c m) (h' : Per c k) : Per c (k % m) := fun i => by
  rw [← h' i, ← per_mul h (k / m) (i + k % m), Nat.add_assoc, Nat.mod_add_div]
theorem per_gcd {c : List Int} (m k : Nat) : Per c m → Per c k → Per c (Nat.gcd m k) := by
  refine Nat.gcd.induction (P := fun m k => Per c m → Per c k → Per c (Nat.gcd m k)) m k (fun n h h' => by rw [Nat.gcd_zero_left]; exact h') (fun m n hm ih h h' => ?_)
  rw [Nat.gcd_rec]
  exact ih (per_mod h h') h
theorem per_rep {c d : List Int} {k : Nat} (hc : c ≠ []) (h : c = rep k d) : ∀ i, c[i % c.length]? = d[i % d.length]? := fun i => by
  have hl : c.length = k * d.length := by rw [h, rep_len]
  have hp := len_pos hc
  have hlt := Nat.mod_lt i hp
  have : c[i % c.length]? = (rep k d)[i % c.length]? := by rw [← h]
  rw [this, rep_get k _ (by rw [← hl]; exact hlt), hl, Nat.mod_mod_of_dvd _ (Nat.dvd_mul_left _ _)]
theorem per_pow {c d : List Int} {k j : Nat} (hc : c ≠ []) (h : c = rep k d) : Per c j ↔ ∀ i, d[(i + j) % d.length]? = d[i % d.length]? := by
  constructor
  · intro p i
    rw [← per_rep hc h, ← per_rep hc h, p i]
  · intro p i
    rw [per_rep hc h, per_rep hc h, p i]
theorem rep_per {c : List Int} {s : Nat} (hs : 0 < s) (hd : s ∣ c.length) (p : Per c s) : rep (c.length / s) (c.take s) = c := by
  by_cases hc : c = []
  · subst hc; simp [rep_nil]
  have hle : s ≤ c.length := Nat.le_of_dvd (len_pos hc) hd
  have ht : (c.take s).length = s := by rw [List.length_take]; omega
  have hm : c.length / s * s = c.length := Nat.div_mul_cancel hd
  apply List.ext_getElem?
  intro i
  by_cases hi : i < c.length
  · rw [rep_get _ i (by rw [ht, hm]; exact hi), ht, List.getElem?_take, if_pos (Nat.mod_lt i hs)]
    have := per_mul p (i / s) (i % s)
    rw [Nat.mod_add_div, Nat.mod_eq_of_lt hi, Nat.mod_eq_of_lt (Nat.lt_of_lt_of_le (Nat.mod_lt i hs) hle)] at this
    exact this.symm
  · rw [List.getElem?_eq_none (by rw [rep_len, ht, hm]; omega), List.getElem?_eq_none (by omega)]
/-! ### the shortest piece -/
def isP (c : List Int) (s : Nat) : Bool := decide (c.length % s = 0) && decide (rep (c.length / s) (c.take s) = c)
theorem isP_iff {c : List Int} {s : Nat} (hc : c ≠ []) (hs : 0 < s) : isP c s = true ↔ s ∣ c.length ∧ Per c s := by
  unfold isP
  rw [Bool.and_eq_true, decide_eq_true_eq, decide_eq_true_eq]
  constructor
  · rintro ⟨h1, h2⟩
    have hd := Nat.dvd_of_mod_eq_zero h1
    refine ⟨hd, ?_⟩
    have hle : s ≤ c.length := Nat.le_of_dvd (len_pos hc) hd
    have ht : (c.take s).length = s := by rw [List.length_take]; omega
    refine (per_pow hc h2.symm).mpr fun i => ?_
    rw [ht, Nat.add_mod_right]
  · rintro ⟨h1, h2⟩
    exact ⟨Nat.mod_eq_zero_of_dvd h1, rep_per hs h1 h2⟩
def lpS (c : List Int) : Nat := match (List.range (c.length - 1)).find? (fun i => isP c (i + 1)) with
  | some i => i + 1
  | none => c.length
def lp (c : List Int) : List Int := c.take (lpS c)
theorem lpS_spec {c : List Int} (hc : c ≠ []) : 0 < lpS c ∧ isP c (lpS c) = true ∧ ∀ s, 0 < s → s < lpS c → isP c s = false := by
  have hp := len_pos hc
  unfold lpS
  split
  · rename_i i h
    rw [List.find?_range_eq_some] at h
    obtain ⟨h1, h2, h3⟩ := h
    refine ⟨by omega, h1, fun s hs hlt => ?_⟩
    have := h3 (s - 1) (by omega)
    rw [show s - 1 + 1 = s from by omega] at this
    simpa using this
  · rename_i h
    rw [List.find?_range_eq_none] at h
    refine ⟨hp, (isP_iff hc hp).mpr ⟨Nat.dvd_refl _, per_self c⟩, fun s hs hlt => ?_⟩
    have := h (s - 1) (by omega)
    rw [show s - 1 + 1 = s from by omega] at this
    simpa using this
theorem lpS_dvd {c : List Int} (hc : c ≠ []) : lpS c ∣ c.length ∧ Per c (lpS c) := (isP_iff hc (lpS_spec hc).1).mp (lpS_spec hc).2.1
theorem lpS_le {c : List Int} (hc : c ≠ []) : lpS c ≤ c.length := Nat.le_of_dvd (len_pos hc) (lpS_dvd hc).1
theorem lp_len {c : List Int} (hc : c ≠ []) : (lp c).length = lpS c := by
  unfold lp
  rw [List.length_take]
  have := lpS_le hc
  omega
theorem lp_ne {c : List Int} (hc : c ≠ []) : lp c ≠ [] := fun h => by
  have h1 := lp_len hc
  rw [h] at h1
  have h2 := (lpS_spec hc).1
  have h3 : ([] : List Int).length = 0 := rfl
  omega
theorem lp_rep {c : List Int} (hc : c ≠ []) : c = rep (c.length / lpS c) (lp c) := (rep_per (lpS_spec hc).1 (lpS_dvd hc).1 (lpS_dvd hc).2).symm
theorem lp_pow {c : List Int} (hc : c ≠ []) : ∃ m, c = rep (m + 1) (lp c) ∧ m + 1 ≤ c.length := by
  have h1 := lp_rep hc
  have h2 := lpS_le hc
  have h3 := (lpS_spec hc).1
  have h4 : 0 < c.length / lpS c := Nat.div_pos h2 h3
  refine ⟨c.length / lpS c - 1, ?_, ?_⟩
  · rw [Nat.sub_add_cancel h4]; exact h1
  · rw [Nat.sub_add_cancel h4]; exact Nat.div_le_self _ _
/-- a period that divides the length is no shorter than the piece -/
theorem lp_least {c : List Int} (hc : c ≠ []) {g : Nat} (hg : 0 < g) (hd : g ∣ c.length) (p : Per c g) : lpS c ≤ g := by
  refine Nat.le_of_not_lt fun h => ?_
  have := (lpS_spec hc).2.2 g hg h
  rw [(isP_iff hc hg).mpr ⟨hd, p⟩] at this
  cases this
theorem ls {c y : List Int} (hc : c ≠ []) (h : c ++ y = y ++ c) : y = rep (y.length / lpS c) (lp c) := by
  have hp := len_pos hc
  have A : ∀ n i, i < n → i < y.length → y[i]? = c[i % c.length]? := by
    intro n
    induction n with
    | zero => intro i h; omega
    | succ n ih =>
      intro i hi hl
      have e : (c ++ y)[i]? = (y ++ c)[i]? := by rw [h]
      rw [List.getElem?_append_left hl] at e
      rw [← e]
      by_cases hic : i < c.length
      · rw [List.getElem?_append_left hic, Nat.mod_eq_of_lt hic]
      · rw [List.getElem?_append_right (by omega), ih (i - c.length) (by omega) (by omega), ← Nat.mod_eq_sub_mod (by omega)]
  have A' : ∀ i, i < y.length → y[i]? = c[i % c.length]? := fun i => A (i + 1) i (Nat.lt_succ_self i)
  have B : Per c y.length := fun i => by
    have hj := Nat.mod_lt i hp
    have e : (c ++ y)[y.length + i % c.length]? = (y ++ c)[y.length + i % c.length]? := by rw [h]
    rw [List.getElem?_append_right (by omega : y.length ≤ y.length + i % c.length), Nat.add_sub_cancel_left] at e
    rw [← e, ← Nat.mod_add_mod, Nat.add_comm (i % c.length)]
    by_cases hl : y.length + i % c.length < c.length
    · rw [List.getElem?_append_left hl, Nat.mod_eq_of_lt hl]
    · rw [List.getElem?_append_right (by omega), A' _ (by omega), ← Nat.mod_eq_sub_mod (by omega)]
  obtain ⟨d1, d2⟩ := lpS_dvd hc
  have h3 := (lpS_spec hc).1
  have hg : 0 < Nat.gcd y.length (lpS c) := Nat.gcd_pos_of_pos_right _ h3
  have hle := lp_least hc hg (Nat.dvd_trans (Nat.gcd_dvd_right _ _) d1) (per_gcd _ _ B d2)
  have hd : lpS c ∣ y.length := by
    have : Nat.gcd y.length (lpS c) = lpS c := Nat.le_antisymm (Nat.gcd_le_right _ h3) hle
    rw [← this]
    exact Nat.gcd_dvd_left _ _
  have hm : y.length / lpS c * lpS c = y.length := Nat.div_mul_cancel hd
  apply List.ext_getElem?
  intro i
  by_cases hi : i < y.length
  · rw [rep_get _ i (by rw [lp_len hc, hm]; exact hi), lp_len hc, A' i hi]
    unfold lp
    rw [List.getElem?_take, if_pos (Nat.mod_lt i h3)]
    have := per_mul d2 (i / lpS c) (i % lpS c)
    rw [Nat.mod_add_div, Nat.mod_eq_of_lt (Nat.lt_of_lt_of_le (Nat.mod_lt i h3) (lpS_le hc))] at this
    exact this
  · rw [List.getElem?_eq_none (by omega), List.getElem?_eq_none (by rw [rep_len, lp_len hc, hm]; omega)]
/-- the piece of a power of the piece -/
theorem lp_of_pow {c : List Int} (hc : c ≠ []) (k : Nat) : lp (rep (k + 1) (lp c)) = lp c := by
  obtain ⟨m, hm, _⟩ := lp_pow hc
  have hd := lp_ne hc
  have hc' : rep (k + 1) (lp c) ≠ [] := by
    rw [rep_succ]
    intro z
    exact hd (List.append_eq_nil_iff.mp z).1
  have h1 : Per (rep (k + 1) (lp c)) (lp c).length := (per_pow hc' rfl).mpr fun i => by rw [Nat.add_mod_right]
  have h2 := lp_least hc' (len_pos hd) (by rw [rep_len]; exact Nat.dvd_mul_left _ _) h1
  obtain ⟨d1, d2⟩ := lpS_dvd hc'
  have h3 : Per c (lpS (rep (k + 1) (lp c))) := (per_pow hc hm).mpr ((per_pow hc' rfl).mp d2)
  have hp := (lpS_spec hc').1
  have h4 := lp_least hc (Nat.gcd_pos_of_pos_left c.length hp) (Nat.gcd_dvd_right _ _) (per_gcd _ _ h3 (per_self c))
  have h5 : lpS (rep (k + 1) (lp c)) = (lp c).length := by
    have := Nat.le_trans h4 (Nat.gcd_le_left _ hp)
    rw [lp_len hc] at h2 ⊢
    omega
  show (rep (k + 1) (lp c)).take _ = _
  rw [h5, rep_succ, List.take_left']
  rfl
theorem inv_take (c : List Int) {k s : Nat} (h : rep k (c.take s) = c) (hk : 0 < k) (hs : s ≤ c.length) : (inv c).take s = inv (c.take s) := by
  have ht : (inv (c.take s)).length = s := by rw [inv_len, List.length_take]; omega
  have : inv c = inv (c.take s) ++ rep (k - 1) (inv (c.take s)) := by
    have h' : inv c = rep k (inv (c.take s)) := by rw [← inv_rep, h]
    rw [h', ← rep_succ, Nat.sub_add_cancel hk]
  rw [this, List.take_left' ht]
theorem isP_inv1 {c : List Int} {s : Nat} (hc : c ≠ []) (hs : 0 < s) (h : isP c s = true) : isP (inv c) s = true := by
  have h0 := ((isP_iff hc hs).mp h).1
  have hle : s ≤ c.length := Nat.le_of_dvd (len_pos hc) h0
  unfold isP at h ⊢
  rw [Bool.and_eq_true, decide_eq_true_eq, decide_eq_true_eq] at h ⊢
  rw [inv_len]
  refine ⟨h.1, ?_⟩
  rw [inv_take c h.2 (Nat.div_pos hle hs) hle, ← inv_rep, h.2]
theorem inv_ne {c : List Int} (hc : c ≠ []) : inv c ≠ [] := fun h => by
  have h1 := congrArg List.length h
  rw [inv_len] at h1
  have h2 := len_pos hc
  have h3 : ([] : List Int).length = 0 := rfl
  omega
theorem isP_inv {c : List Int} {s : Nat} (hc : c ≠ []) (hs : 0 < s) : isP (inv c) s = isP c s := by
  rw [Bool.eq_iff_iff]
  constructor
  · intro h
    have := isP_inv1 (inv_ne hc) hs h
    rwa [inv_inv] at this
  · exact isP_inv1 hc hs
theorem lpS_inv {c : List Int} (hc : c ≠ []) : lpS (inv c) = lpS c := by
  unfold lpS
  rw [inv_len]
  have : (fun i => isP (inv c) (i + 1)) = fun i => isP c (i + 1) := by
    funext i
    exact isP_inv hc (Nat.succ_pos i)
  rw [this]
theorem lp_inv {c : List Int} (hc : c ≠ []) : lp (inv c) = inv (lp c) := by
  unfold lp
  rw [lpS_inv hc]
  have h := lp_rep hc
  exact inv_take c h.symm (Nat.div_pos (lpS_le hc) (lpS_spec hc).1) (lpS_le hc)
end WM
namespace WM
/-! ### words that go past one another -/
def Pass (a b : List Int) : Prop := red (a ++ b) = red (b ++ a)
theorem rl {b b' : List Int} (a : List Int) (h : red b = red b') : red (a ++ b) = red (a ++ b') := by rw [← red_app_red a b, h, red_app_red]
theorem rr {a a' : List Int} (b : List Int) (h : red a = red a') : red (a ++ b) = red (a' ++ b) := by rw [← red_red_app, h, red_red_app]
theorem inv_r (a b : List Int) : red (b ++ (a ++ inv a)) = red b := by
  have := red_inv_right a []
  rw [List.append_nil] at this
  rw [rl b this, List.append_nil]
theorem cancel_l {a u v : List Int} (h : red (a ++ u) = red (a ++ v)) : red u = red v := by
  rw [← red_inv_left a u, rl (inv a) h, red_inv_left]
theorem cancel_r {a u v : List Int} (h : red (u ++ a) = red (v ++ a)) : red u = red v := by
  have := rr (inv a) h
  rwa [List.append_assoc, List.append_assoc, inv_r, inv_r] at this
theorem Pass.sym {a b : List Int} (h : Pass a b) : Pass b a := Eq.symm h
theorem pass_red {a b : List Int} : Pass (red a) b ↔ Pass a b := by
  unfold Pass
  rw [red_red_app, red_app_red]
theorem pass_congr {a a' b : List Int} (h : red a = red a') : Pass a b ↔ Pass a' b := by
  rw [← pass_red, h, pass_red]
theorem pass_inv {a b : List Int} (h : Pass a b) : Pass a (inv b) := by
  refine cancel_l (a := b) ?_
  rw [← List.append_assoc, ← List.append_assoc, ← rr (inv b) h, List.append_assoc, inv_r]
  have := red_inv_right b a
  rw [← List.append_assoc] at this
  exact this.symm
theorem pass_inv_iff {a b : List Int} : Pass a (inv b) ↔ Pass a b := ⟨fun h => by have := pass_inv h; rwa [inv_inv] at this, pass_inv⟩
theorem conj_mul (a x y : List Int) : red ((a ++ x ++ inv a) ++ (a ++ y ++ inv a)) = red (a ++ (x ++ y) ++ inv a) := by
  have e : (a ++ x ++ inv a) ++ (a ++ y ++ inv a) = (a ++ x) ++ (inv a ++ (a ++ (y ++ inv a))) := by simp
  rw [e, rl (a ++ x) (red_inv_left a (y ++ inv a))]
  simp
theorem pass_conj (a x y : List Int) : Pass (a ++ x ++ inv a) (a ++ y ++ inv a) ↔ Pass x y := by
  unfold Pass
  rw [conj_mul, conj_mul]
  constructor
  · intro h
    exact cancel_l (cancel_r h)
  · intro h
    exact rr _ (rl _ h)
theorem pass_rep {a b : List Int} (h : Pass a b) : ∀ n, Pass (rep n a) b
  | 0 => by unfold Pass; simp [rep_zero]
  | n + 1 => by
    have ih : red (rep n a ++ b) = red (b ++ rep n a) := pass_rep h n
    have h : red (a ++ b) = red (b ++ a) := h
    show red (rep (n + 1) a ++ b) = red (b ++ rep (n + 1) a)
    rw [rep_succ, List.append_assoc, rl a ih, ← List.append_assoc, rr (rep n a) h, List.append_assoc]
theorem pass_self (a : List Int) : Pass a a := rfl
theorem pass_nil (a : List Int) : Pass [] a := by unfold Pass; simp
/-! ### the root of a word -/
def Z (w : List Int) : Prop := ∀ x ∈ w, x ≠ 0
theorem Z.inv {w : List Int} (h : Z w) : Z (inv w) := fun x hx z => by
  have := inv_mem.mp hx
  exact h _ this (by omega)
theorem Z.red {w : List Int} (h : Z w) : Z (red w) := fun x hx => h x (red_mem hx)
theorem Z.app {a b : List Int} (h : Z a) (h' : Z b) : Z (a ++ b) := fun x hx => (List.mem_append.mp hx).elim (h x) (h' x)
def ahead (w : List Int) : List Int := w.take ((w.length - (core w).length) / 2)
def root (w : List Int) : List Int := ahead w ++ lp (core w) ++ inv (ahead w)
theorem ahead_of {w p c : List Int} (h : w = p ++ c ++ inv p) (hc : core w = c) : ahead w = p := by
  unfold ahead
  rw [hc]
  have : w.length = p.length + c.length + p.length := by rw [h, List.length_append, List.length_append, inv_len]
  rw [this, show (p.length + c.length + p.length - c.length) / 2 = p.length from by omega, h, List.append_assoc, List.take_left' rfl]
theorem split (w : List Int) : w = ahead w ++ core w ++ inv (ahead w) := by
  obtain ⟨p, hp, _⟩ := core_spec w
  rw [ahead_of hp rfl]
  exact hp
theorem core_ne {w : List Int} (h : Rd w) (hw : w ≠ []) : core w ≠ [] := fun e => by
  have hs := split w
  rw [e, List.append_nil] at hs
  have hp : ahead w ≠ [] := fun z => hw (by rw [hs, z]; rfl)
  rw [hs] at h
  have h3 := (rd_append.mp h).2.2
  have hl : (ahead w).getLast? = some ((ahead w).getLast hp) := List.getLast?_eq_some_getLast hp
  exact h3 _ _ hl (by rw [inv_head, hl]; rfl) (by show (ahead w).getLast hp = -(-((ahead w).getLast hp)); omega)
theorem rd_glue {a d b : List Int} (hd : d ≠ []) (h1 : Rd (a ++ d)) (h2 : Rd (d ++ b)) : Rd (a ++ d ++ b) := by
  refine rd_append.mpr ⟨h1, rd_right h2, fun x y hx hy => (rd_append.mp h2).2.2 x y ?_ hy⟩
  rw [List.getLast?_append, List.getLast?_eq_some_getLast hd] at hx
  rw [List.getLast?_eq_some_getLast hd]
  exact hx
theorem cyc_piece {d : List Int} {m : Nat} (h : Cyc (rep (m + 1) d)) : Cyc d := fun x y hl hx hy => by
  refine h x y ?_ (by rw [rep_head]; exact hx) (by rw [rep_last]; exact hy)
  rw [rep_len, Nat.succ_mul]
  omega
theorem cyc_rep {d : List Int} (h : Cyc d) (hz : Z d) (n : Nat) : Cyc (rep (n + 1) d) := fun x y hl hx hy => by
  rw [rep_head] at hx
  rw [rep_last] at hy
  match d, hx with
  | [a], hx =>
    simp at hx hy
    subst hx; subst hy
    have := hz a (by simp)
    omega
  | a :: b :: r, hx => exact h x y (by simp) hx hy
theorem Z.core {w : List Int} (h : Z w) : Z (core w) := fun x hx => h x (core_mem hx)
theorem Z.lp {c : List Int} (h : Z c) : Z (lp c) := fun x hx => h x (List.mem_of_mem_take hx)
theorem Z.ahead {c : List Int} (h : Z c) : Z (ahead c) := fun x hx => h x (List.mem_of_mem_take hx)
theorem root_mem {w : List Int} {x : Int} (h : x ∈ root w) : x ∈ w := by
  unfold root at h
  rcases List.mem_append.mp h with h | h
  · rcases List.mem_append.mp h with h | h
    · exact List.mem_of_mem_take h
    · exact core_mem (List.mem_of_mem_take h)
  · have hs := split w
    rw [hs]
    exact List.mem_append_right _ h
/-- a word not empty, by its root -/
structure Rt (w : List Int) : Prop where
  rd : Rd w
  ne : w ≠ []
  z : Z w
section
variable {w : List Int}
theorem Rt.c (h : Rt w) : core w ≠ [] := core_ne h.rd h.ne
theorem Rt.inv (h : Rt w) : Rt (inv w) := ⟨rd_inv h.rd, inv_ne h.ne, h.z.inv⟩
theorem Rt.rroot (h : Rt w) : Rd (root w) := by
  obtain ⟨m, hm, _⟩ := lp_pow h.c
  have hd := lp_ne h.c
  have hr := h.rd
  rw [split w, hm] at hr
  have h1 : Rd (ahead w ++ lp (core w)) := by
    have e : ahead w ++ rep (m + 1) (lp (core w)) ++ WM.inv (ahead w) = (ahead w ++ lp (core w)) ++ (rep m (lp (core w)) ++ WM.inv (ahead w)) := by rw [rep_succ]; simp
    rw [e] at hr
    exact rd_left hr
  have h2 : Rd (lp (core w) ++ WM.inv (ahead w)) := by
    have e : ahead w ++ rep (m + 1) (lp (core w)) ++ WM.inv (ahead w) = (ahead w ++ rep m (lp (core w))) ++ (lp (core w) ++ WM.inv (ahead w)) := by rw [rep_succ']; simp
    rw [e] at hr
    exact rd_right hr
  exact rd_glue hd h1 h2
theorem Rt.cyc (h : Rt w) : Cyc (lp (core w)) := by
  obtain ⟨m, hm, _⟩ := lp_pow h.c
  have := cyc_core w
  rw [hm] at this
  exact cyc_piece this
theorem Rt.pow (h : Rt w) (k : Nat) : Rd (ahead w ++ rep (k + 1) (lp (core w)) ++ WM.inv (ahead w)) := rd_power h.rroot h.cyc h.z.core.lp (lp_ne h.c) k
theorem Rt.red_pow (h : Rt w) (k : Nat) : red (rep (k + 1) (root w)) = ahead w ++ rep (k + 1) (lp (core w)) ++ WM.inv (ahead w) := by
  unfold root
  rw [red_rep_conj, red_of (h.pow k)]
/-- a word is so many times its root -/
theorem Rt.times (h : Rt w) : ∃ m, w = red (rep (m + 1) (root w)) ∧ m + 1 ≤ w.length := by
  obtain ⟨m, hm, hl⟩ := lp_pow h.c
  refine ⟨m, ?_, ?_⟩
  · rw [h.red_pow, ← hm]
    exact split w
  · obtain ⟨k, hk⟩ := core_len w
    omega
/-- a power of the root within the same ends has this root -/
theorem Rt.same (h : Rt w) (k : Nat) : root (ahead w ++ rep (k + 1) (lp (core w)) ++ WM.inv (ahead w)) = root w := by
  have hc : core (ahead w ++ rep (k + 1) (lp (core w)) ++ WM.inv (ahead w)) = rep (k + 1) (lp (core w)) := core_is rfl (cyc_rep h.cyc h.z.core.lp k)
  unfold root
  rw [ahead_of rfl hc, hc, lp_of_pow h.c]
theorem Rt.root (h : Rt w) : Rt (root w) := ⟨h.rroot, fun z => by
  unfold WM.root at z
  have := (List.append_eq_nil_iff.mp z).1
  exact lp_ne h.c (List.append_eq_nil_iff.mp this).2, fun x hx => h.z x (root_mem hx)⟩
theorem Rt.root_root (h : Rt w) : WM.root (WM.root w) = WM.root w := by
  have := h.same 0
  rw [rep_one] at this
  exact this
theorem root_len (w : List Int) : (root w).length ≤ w.length := by
  unfold root
  rw [List.length_append, List.length_append, inv_len]
  have h1 : (lp (core w)).length ≤ (core w).length := by unfold lp; rw [List.length_take]; omega
  obtain ⟨k, hk⟩ := core_len w
  have h2 : (ahead w).length ≤ (w.length - (core w).length) / 2 := by unfold ahead; rw [List.length_take]; omega
  omega
theorem inv_split (w : List Int) : WM.inv w = ahead w ++ WM.inv (core w) ++ WM.inv (ahead w) := by
  have h := split w
  have : WM.inv w = WM.inv (ahead w ++ core w ++ WM.inv (ahead w)) := by rw [← h]
  rw [this, inv_app, inv_app, inv_inv, List.append_assoc]
theorem cyc_inv {c : List Int} (h : Cyc c) : Cyc (WM.inv c) := fun x y hl hx hy => by
  rw [inv_len] at hl
  rw [inv_head] at hx
  rw [inv_last] at hy
  obtain ⟨a, ha, ea⟩ := Option.map_eq_some_iff.mp hx
  obtain ⟨b, hb, eb⟩ := Option.map_eq_some_iff.mp hy
  have := h b a hl hb ha
  omega
theorem core_inv (w : List Int) : core (WM.inv w) = WM.inv (core w) := core_is (inv_split w) (cyc_inv (cyc_core w))
theorem ahead_inv (w : List Int) : ahead (WM.inv w) = ahead w := ahead_of (inv_split w) (core_inv w)
theorem Rt.root_inv (h : Rt w) : WM.root (WM.inv w) = WM.inv (WM.root w) := by
  unfold WM.root
  rw [ahead_inv, core_inv, lp_inv h.c, inv_app, inv_app, inv_inv, List.append_assoc]
end
theorem red_len_eq : ∀ {l : List Int}, (red l).length = l.length → red l = l
  | [], _ => rfl
  | x :: l, h => by
    rw [red_cons] at h ⊢
    have h1 := push_len x (red l)
    have h2 := red_len l
    have h3 : red l = l := red_len_eq (by simp only [List.length_cons] at h; omega)
    rw [h3] at h ⊢
    cases l with
    | nil => rfl
    | cons y r =>
      rw [push_cons] at h ⊢
      split
      · rename_i e
        rw [if_pos e] at h
        simp only [List.length_cons] at h
        omega
      · rfl
theorem nocancel {c y : List Int} (h : Pass c y) (hr : Rd (c ++ y)) : c ++ y = y ++ c := by
  have h : red (c ++ y) = red (y ++ c) := h
  rw [red_of hr] at h
  rw [h]
  refine red_len_eq ?_
  rw [← h, List.length_append, List.length_append, Nat.add_comm]
/-- what goes past x, seen from x's core -/
theorem inner {x y : List Int} (hx : Rt x) (hy : Rt y) (h : Pass x y) : Pass (core x) (red (inv (ahead x) ++ y ++ ahead x)) ∧ y = red (ahead x ++ red (inv (ahead x) ++ y ++ ahead x) ++ inv (ahead x)) ∧ red (inv (ahead x) ++ y ++ ahead x) ≠ [] := by
  have e : red (ahead x ++ red (inv (ahead x) ++ y ++ ahead x) ++ inv (ahead x)) = y := by
    rw [red_congr (ahead x) (inv (ahead x)) (red_red (inv (ahead x) ++ y ++ ahead x))]
    have e1 : ahead x ++ (inv (ahead x) ++ y ++ ahead x) ++ inv (ahead x) = ahead x ++ (inv (ahead x) ++ (y ++ (ahead x ++ inv (ahead x)))) := by simp
    rw [e1, red_inv_right, inv_r, red_of hy.rd]
  refine ⟨?_, e.symm, fun z => ?_⟩
  · refine (pass_conj (ahead x) _ _).mp ?_
    rw [← split x]
    refine (Pass.sym ((pass_congr ?_).mpr h.sym))
    rw [e, red_of hy.rd]
  · rw [z, List.append_nil] at e
    have := inv_r (ahead x) []
    rw [List.nil_append] at this
    rw [this] at e
    exact hy.ne e.symm
theorem rootA {x y : List Int} (hx : Rt x) (hy : Rt y) (h : Pass x y) (hr : Rd (core x ++ red (inv (ahead x) ++ y ++ ahead x))) : root y = root x := by
  obtain ⟨h1, h2, h3⟩ := inner hx hy h
  have h4 := ls hx.c (nocancel h1 hr)
  obtain ⟨k, hk⟩ : ∃ k, red (inv (ahead x) ++ y ++ ahead x) = rep (k + 1) (lp (core x)) := by
    cases q : (red (inv (ahead x) ++ y ++ ahead x)).length / lpS (core x) with
    | zero => rw [q, rep_zero] at h4; exact absurd h4 h3
    | succ k => rw [q] at h4; exact ⟨k, h4⟩
  rw [hk, red_of (hx.pow k)] at h2
  rw [h2, hx.same]
/-- two words that go past one another have one root, or contrary ones -/
theorem one_root {x y : List Int} (hx : Rt x) (hy : Rt y) (h : Pass x y) : root y = root x ∨ root y = inv (root x) := by
  obtain ⟨h1, h2, h3⟩ := inner hx hy h
  have hrc : Rd (core x) := rd_core hx.rd
  have hr := rd_red (inv (ahead x) ++ y ++ ahead x)
  by_cases hb : ∀ a b, (core x).getLast? = some a → (red (inv (ahead x) ++ y ++ ahead x)).head? = some b → a ≠ -b
  · exact .inl (rootA hx hy h (rd_append.mpr ⟨hrc, hr, hb⟩))
  · right
    have hb : ∃ a b, (core x).getLast? = some a ∧ (red (inv (ahead x) ++ y ++ ahead x)).head? = some b ∧ a = -b := by
      refine Classical.byContradiction fun hn => hb fun a b ha hb' e => hn ⟨a, b, ha, hb', e⟩
    obtain ⟨a, b, ha, hb, e⟩ := hb
    have := rootA hx.inv hy (pass_inv h.sym).sym (by
      rw [core_inv, ahead_inv]
      refine rd_append.mpr ⟨rd_inv hrc, hr, fun u v hu hv => ?_⟩
      rw [hb] at hv
      cases hv
      rw [inv_last] at hu
      obtain ⟨g, hg, eg⟩ := Option.map_eq_some_iff.mp hu
      have hgz : g ≠ 0 := hx.z.core g (List.mem_of_head? hg)
      by_cases hl : 1 < (core x).length
      · have := cyc_core x g a hl hg ha
        omega
      · have hne := hx.c
        match hcx : core x, hl with
        | [q], _ =>
          rw [hcx] at hg ha
          simp at hg ha
          omega
        | [], _ => exact absurd hcx hne
        | _ :: _ :: _, hl => simp at hl)
    rw [this, hx.root_inv]
end WM
namespace G
open PySem L2 TL WM
theorem big3 {m a c1 c2 c3 : Int} (h1 : 0 ≤ m) (h2 : m < 2 ^ 31) (h3 : 0 ≤ a) (h4 : a ≤ 2 ^ 20) (hc1 : 0 ≤ c1 ∧ c1 ≤ 2 ^ 17) (hc2 : 0 ≤ c2 ∧ c2 ≤ 2 ^ 17) (hc3 : 0 ≤ c3 ∧ c3 ≤ 2 ^ 17) : (m * (2 * a + c1) + c2 * a * a + c3).natAbs < 2 ^ 64 := by
  have e1 : m * (2 * a + c1) ≤ 2 ^ 31 * (2 * 2 ^ 20 + 2 ^ 17) := Int.mul_le_mul (by omega) (by omega) (by omega) (by omega)
  have e2 : 0 ≤ m * (2 * a + c1) := Int.mul_nonneg h1 (by omega)
  have e3 : c2 * a ≤ 2 ^ 17 * 2 ^ 20 := Int.mul_le_mul (by omega) (by omega) (by omega) (by omega)
  have e4 : 0 ≤ c2 * a := Int.mul_nonneg (by omega) (by omega)
  have e5 : c2 * a * a ≤ 2 ^ 17 * 2 ^ 20 * 2 ^ 20 := Int.mul_le_mul e3 (by omega) (by omega) (by omega)
  have e6 : 0 ≤ c2 * a * a := Int.mul_nonneg e4 (by omega)
  omega
theorem draw_ok {many : Int} {t : Jar} {n : Nat} {Kf : Int → Jar → Prop} (h0 : 0 < many) (h1 : many < 1073741824) (hn : n < 1048576) (J : JOk n t) (k : ∀ x t', 0 ≤ x → x < many → JOk (n + 1) t' → Kf x t') : m_l_draw many t Kf := by
  obtain ⟨cells, a, rest⟩ := t
  have ha : 0 ≤ a := J.1
  have hb : a ≤ n := J.2
  have nz : many ≠ 0 := by omega
  have f0 : ∀ x : Int, 0 ≤ x.fmod many := fun x => Int.fmod_nonneg_of_pos x h0
  have f1 : ∀ x : Int, x.fmod many < many := fun x => Int.fmod_lt_of_pos x h0
  have dv : ∀ x : Int, CDivN x many := fun x => ⟨nz, by omega⟩
  have fm : ∀ (x m : Int), 0 < m → 0 ≤ x.fmod m ∧ x.fmod m < m := fun x m hm => ⟨Int.fmod_nonneg_of_pos x hm, Int.fmod_lt_of_pos x hm⟩
  unfold m_l_draw
  dsimp only [mB]
  split
  · exact ⟨dv _, nz, k _ _ (f0 _) (f1 _) ⟨ha, by show a ≤ ((n + 1 : Nat) : Int); omega⟩⟩
  · refine ⟨.inl ⟨by omega, by omega⟩, by simp, ?_⟩
    have go : ∀ cell : Int, (fun (s17 : Jar × Int) =>
  (fun (K19 : Bool → Jar × Int → Prop) => (if (decide (a < (s17.1.1.length : Int))) = true then (CPow (10 : Int) (18 : Int) ∧ K19 (decide (((10 : Int) ^ (18 : Int).toNat) ≤ (s17.2.natAbs : Int))) (s17.1, s17.2)) else K19 false (s17.1, s17.2))) (fun b20 s21 => (if b20 = true then (CPow (10 : Int) (18 : Int) ∧ (CMul (2 : Int) ((s21.2.natAbs : Int) - ((10 : Int) ^ (18 : Int).toNat)) ∧ (fun (l_rest14 : Int) => (CDivN l_rest14 many ∧ (many ≠ 0 ∧ Kf (l_rest14.fmod many) (s21.1.1, s21.1.2.1, (l_rest14.fdiv many))))) (((2 : Int) * ((s21.2.natAbs : Int) - ((10 : Int) ^ (18 : Int).toNat))) + (if (decide (s21.2 < (0 : Int))) then 1 else 0)))) else
  ((2147483647 : Int) ≠ 0 ∧ (CMul (33331 : Int) a ∧ (CPow (((s21.2.fmod (2147483647 : Int)) + ((33331 : Int) * a)) + (6047 : Int)) (5 : Int) ∧ ((2147483549 : Int) ≠ 0 ∧ (fun (l_mixed15 : Int) => (CMul (2 : Int) a ∧ (CMul l_mixed15 (((2 : Int) * a) + (1861 : Int)) ∧ (CMul (51151 : Int) a ∧ (CMul ((51151 : Int) * a) a ∧ (CPow (((l_mixed15 * (((2 : Int) * a) + (1861 : Int))) + (((51151 : Int) * a) * a)) + (44131 : Int)) (3 : Int) ∧ ((2147483563 : Int) ≠ 0 ∧ (fun (l_mixed16 : Int) => (CDivN l_mixed16 (64 : Int) ∧ (many ≠ 0 ∧ Kf ((l_mixed16.fdiv (64 : Int)).fmod many) s21.1))) (((((l_mixed15 * (((2 : Int) * a) + (1861 : Int))) + (((51151 : Int) * a) * a)) + (44131 : Int)) ^ (3 : Int).toNat).fmod (2147483563 : Int))))))))) (((((s21.2.fmod (2147483647 : Int)) + ((33331 : Int) * a)) + (6047 : Int)) ^ (5 : Int).toNat).fmod (2147483549 : Int))))))))) ((cells, a + 1, rest), cell) := fun cell => by
      have jn : JOk (n + 1) (cells, a + 1, rest) := ⟨by show 0 ≤ a + 1; omega, by show a + 1 ≤ ((n + 1 : Nat) : Int); omega⟩
      have p10 : CPow (10 : Int) (18 : Int) := ⟨by omega, by omega, by decide⟩
      have end1 : ∀ b : Bool, (if b = true then (CPow (10 : Int) (18 : Int) ∧ (CMul (2 : Int) ((cell.natAbs : Int) - ((10 : Int) ^ (18 : Int).toNat)) ∧ (fun (l_rest14 : Int) => (CDivN l_rest14 many ∧ (many ≠ 0 ∧ Kf (l_rest14.fmod many) (cells, a + 1, (l_rest14.fdiv many))))) (((2 : Int) * ((cell.natAbs : Int) - ((10 : Int) ^ (18 : Int).toNat))) + (if (decide (cell < (0 : Int))) then 1 else 0)))) else
  ((2147483647 : Int) ≠ 0 ∧ (CMul (33331 : Int) a ∧ (CPow (((cell.fmod (2147483647 : Int)) + ((33331 : Int) * a)) + (6047 : Int)) (5 : Int) ∧ ((2147483549 : Int) ≠ 0 ∧ (fun (l_mixed15 : Int) => (CMul (2 : Int) a ∧ (CMul l_mixed15 (((2 : Int) * a) + (1861 : Int)) ∧ (CMul (51151 : Int) a ∧ (CMul ((51151 : Int) * a) a ∧ (CPow (((l_mixed15 * (((2 : Int) * a) + (1861 : Int))) + (((51151 : Int) * a) * a)) + (44131 : Int)) (3 : Int) ∧ ((2147483563 : Int) ≠ 0 ∧ (fun (l_mixed16 : Int) => (CDivN l_mixed16 (64 : Int) ∧ (many ≠ 0 ∧ Kf ((l_mixed16.fdiv (64 : Int)).fmod many) (cells, a + 1, rest)))) (((((l_mixed15 * (((2 : Int) * a) + (1861 : Int))) + (((51151 : Int) * a) * a)) + (44131 : Int)) ^ (3 : Int).toNat).fmod (2147483563 : Int))))))))) (((((cell.fmod (2147483647 : Int)) + ((33331 : Int) * a)) + (6047 : Int)) ^ (5 : Int).toNat).fmod (2147483549 : Int))))))) := fun b => by
        cases b with
        | true =>
          rw [if_pos rfl]
          exact ⟨p10, .inl ⟨by omega, by omega⟩, dv _, nz, k _ _ (f0 _) (f1 _) ⟨by show 0 ≤ a + 1; omega, by show a + 1 ≤ ((n + 1 : Nat) : Int); omega⟩⟩
        | false =>
          rw [if_neg (by simp)]
          have q1 := fm cell 2147483647 (by omega)
          have q2 := fm (((cell.fmod 2147483647 + 33331 * a) + 6047) ^ (5 : Int).toNat) 2147483549 (by omega)
          exact ⟨by omega, .inl ⟨by omega, by omega⟩, ⟨by omega, by omega, by omega⟩, by omega, .inl ⟨by omega, by omega⟩, .inl ⟨by omega, by omega⟩, .inl ⟨by omega, by omega⟩, .inl ⟨by omega, by omega⟩,
            ⟨by omega, by omega, big3 q2.1 (by omega) ha (by omega) (by omega) (by omega) (by omega)⟩, by omega, ⟨by omega, by omega⟩, nz, k _ _ (f0 _) (f1 _) jn⟩
      dsimp only [mB]
      split
      · exact ⟨p10, end1 _⟩
      · exact end1 _
    unfold mIf
    split
    · rename_i hne
      have hl : 0 < (cells.length : Int) := by
        cases cells with
        | nil => simp at hne
        | cons x xs => simp
      have q := fm a cells.length hl
      obtain ⟨y, hy, _⟩ := pyAt_get (xs := cells) q.1 q.2
      exact ⟨by omega, y, hy, go y⟩
    · exact go _
end G
namespace G
open PySem L2 TL WM
def Ltk (k : Int) (l : List Int) : Prop := ∀ x ∈ l, x ≠ 0 ∧ -k ≤ x ∧ x ≤ k
theorem Ltk.app {k : Int} {a b : List Int} (h1 : Ltk k a) (h2 : Ltk k b) : Ltk k (a ++ b) := fun x hx => (List.mem_append.mp hx).elim (h1 x) (h2 x)
theorem Ltk.mono {k j : Int} {a : List Int} (h : Ltk k a) (e : k ≤ j) : Ltk j a := fun x hx => by have := h x hx; omega
theorem Ltk.sub {k : Int} {a b : List Int} (h : Ltk k b) (e : ∀ x ∈ a, x ∈ b) : Ltk k a := fun x hx => h x (e x hx)
theorem Ltk.inv {k : Int} {a : List Int} (h : Ltk k a) : Ltk k (inv a) := fun x hx => by
  unfold WM.inv at hx
  rw [List.mem_map] at hx
  obtain ⟨y, hy, rfl⟩ := hx
  have := h y (List.mem_reverse.mp hy)
  omega
theorem contrary_of_ok {l : List Int} {Kf : List Int → Prop} (h : l.length ≤ 1000000) (k : Kf (inv l)) : m_contrary_of l Kf := by
  unfold m_contrary_of
  exact ⟨by rw [List.length_reverse]; exact h, mMap_det (fun x => -x) (fun _ _ _ h => h) k⟩
theorem rounded_ok {l : List Int} {Kf : List Int → Prop} (k : Kf (core l)) : m_rounded_of l Kf := by
  unfold m_rounded_of
  dsimp only [mB]
  refine mWhile_of (fun s : Int => ∃ p b, s = (p.length : Int) ∧ l = p ++ b ++ inv p) (fun s => l.length - s.toNat) (by exact ⟨[], l, rfl, by simp [inv]⟩) (fun s N ⟨p, b, es, hp⟩ hN => ?_)
  subst es
  have hlen : l.length = 2 * p.length + b.length := by
    have := congrArg List.length hp
    simp [inv_len] at this
    omega
  have fin : Cyc b → Kf (pyCut l (some (p.length : Int)) (some ((l.length : Int) - (p.length : Int)))) := fun hc => by
    rw [pyCut_mid (by omega) (by omega) (by omega)]
    have : (l.drop ((p.length : Int)).toNat).take (((l.length : Int) - (p.length : Int)).toNat - ((p.length : Int)).toNat) = b := by
      have t1 : ((p.length : Int)).toNat = p.length := by omega
      have t2 : ((l.length : Int) - (p.length : Int)).toNat - p.length = b.length := by omega
      rw [t1, t2, hp, List.append_assoc, List.drop_left, List.take_left]
    rw [this, ← core_is hp hc]
    exact k
  split
  · rename_i h1
    have h1 : (p.length : Int) < ((l.length : Int) - 1) - (p.length : Int) := by simpa using h1
    obtain ⟨x, m, y, rfl⟩ := ends_of (l := b) (by omega)
    have g1 : pyAt l (p.length : Int) = some x := by
      rw [pyAt_nat (by omega) (by omega)]
      have t1 : ((p.length : Int)).toNat = p.length := by omega
      rw [t1, hp, List.append_assoc, List.getElem?_append_right (by omega), Nat.sub_self]
      rfl
    have g2 : pyAt l (((l.length : Int) - 1) - (p.length : Int)) = some y := by
      rw [pyAt_nat (by omega) (by omega)]
      have t1 : (((l.length : Int) - 1) - (p.length : Int)).toNat = (p ++ x :: m).length := by
        simp at hlen ⊢
        omega
      have e : l = (p ++ x :: m) ++ (y :: inv p) := by rw [hp]; simp
      rw [t1]
      conv => lhs; rw [e]
      rw [List.getElem?_append_right (by omega), Nat.sub_self]
      rfl
    refine ⟨x, g1, y, g2, ?_⟩
    dsimp only [mB]
    split
    · rename_i e
      have e : x = -y := by simpa using e
      refine hN _ ⟨p ++ [x], m, by simp, ?_⟩ ?_
      · rw [hp, inv_app, e]
        simp [inv]
      · simp at hlen
        omega
    · rename_i e
      have e : ¬ x = -y := by simpa using e
      exact fin fun a b _ ha hb => by
        rw [head_ends] at ha
        rw [last_ends] at hb
        cases ha; cases hb
        exact e
  · rename_i h1
    have h1 : ¬ (p.length : Int) < ((l.length : Int) - 1) - (p.length : Int) := by simpa using h1
    dsimp only [mB]
    rw [if_neg (by simp)]
    exact fin fun a b h => by omega
theorem up_len : ∀ {l : List Int} {lo hi : Int}, l.Pairwise (· < ·) → (∀ x ∈ l, lo ≤ x ∧ x ≤ hi) → (l.length : Int) ≤ max 0 (hi - lo + 1)
  | [], lo, hi, _, _ => by simp; omega
  | x :: l, lo, hi, h, hb => by
    have h1 := List.pairwise_cons.mp h
    have ih := up_len (lo := x + 1) (hi := hi) h1.2 fun y hy => ⟨by have := h1.1 y hy; omega, (hb y (List.mem_cons_of_mem _ hy)).2⟩
    have := hb x List.mem_cons_self
    simp only [List.length_cons]
    omega
theorem is_letter_ok {x : Int} {Kf : Bool → Prop} (h : x ≠ 0 ∧ -26 ≤ x ∧ x ≤ 26) (k : Kf true) : m_is_letter x Kf := by
  have e1 : decide (-(26 : Int) ≤ x) = true := decide_eq_true h.2.1
  have e2 : decide (x ≤ (26 : Int)) = true := decide_eq_true h.2.2
  have e3 : (!decide (x = (0 : Int))) = true := by rw [decide_eq_false h.1]; rfl
  unfold m_is_letter m_is_within m_is_integer
  simp only [mB, Bool.not_false, Bool.not_true, if_true, if_false, Bool.false_eq_true, e1, e2, e3]
  exact k
theorem are_letters_ok {l : List Int} {Kf : Bool → Prop} (h : Ltk 26 l) (hl : l.length ≤ 1000000) (k : Kf true) : m_are_letters l Kf := by
  unfold m_are_letters m_is_listed
  dsimp only [mB]
  rw [if_pos rfl]
  refine ⟨hl, mMap_det (fun _ => true) (fun x hx K hK => is_letter_ok (h x hx) hK) ?_⟩
  have : (l.map fun _ => true).all id = true := by simp
  rw [this]; exact k
theorem are_letters_v1_ok {l : List Int} {Kf : Bool → Prop} (h : Ltk 26 l) (hl : l.length ≤ 1000000) (k : Kf true) : m_are_letters_v1 l Kf := by
  unfold m_are_letters_v1 m_is_listed_v1
  dsimp only [mB]
  rw [if_pos rfl]
  refine ⟨hl, mMap_det (fun _ => true) (fun x hx K hK => is_letter_ok (h x hx) hK) ?_⟩
  have : (l.map fun _ => true).all id = true := by simp
  rw [this]; exact k
def rdB (l : List Int) : Bool := ((List.zip l (l.drop 1)).map fun z => !decide (z.1 = -z.2)).all id
theorem rdB_iff : ∀ (l : List Int), rdB l = true ↔ Rd l
  | [] => by simp [rdB, WM.Rd]
  | [x] => by simp [rdB, WM.Rd]
  | x :: y :: r => by
    have ih := rdB_iff (y :: r)
    show _ ↔ (x ≠ -y ∧ Rd (y :: r))
    rw [← ih]
    unfold rdB
    simp
theorem are_short_ok {l : List Int} {Kf : Bool → Prop} (hl : l.length ≤ 1000000) (k : Kf (rdB l)) : m_are_short l Kf := by
  unfold m_are_short
  rw [pyCut_drop (by omega)]
  refine ⟨by rw [List.length_zip]; omega, mMap_det _ (fun _ _ _ h => h) k⟩
def mkW (l : List Int) : D_Word := ⟨l, l.length, sortU (l.map fun x => (x.natAbs : Int)), rdB l, if rdB l = true then decide (core l = l) else false⟩
theorem kinds_few {l : List Int} (h : Ltk 26 l) : (sortU (l.map fun x => (x.natAbs : Int))).length < 64 := by
  have := up_len (lo := 1) (hi := 26) (sortU_up (l.map fun x => (x.natAbs : Int))) fun x hx => by
    rw [sortU_mem] at hx
    obtain ⟨y, hy, rfl⟩ := List.mem_map.mp hx
    have := h y hy
    omega
  omega
theorem need_few_ok {n : Int} {Kf : Unit → Prop} (h : n ≤ 500) (k : Kf ()) : m_need_few n Kf := by
  unfold m_need_few
  rw [if_neg (by simp; omega)]
  exact k
theorem init_ok {l : List Int} {Kf : D_Word → Prop} (h : Ltk 26 l) (hl : l.length ≤ 500) (k : Kf (mkW l)) : m_Word___init__ l Kf := by
  unfold m_Word___init__
  refine are_letters_ok h (by omega) ?_
  rw [if_neg (by simp)]
  refine need_few_ok (by omega) ?_
  dsimp only [mB]
  refine ⟨by omega, mMap_det (fun x : Int => (x.natAbs : Int)) (fun _ _ _ h => h) ⟨kinds_few h, are_short_ok (by omega) ?_⟩⟩
  unfold mkW at k
  split
  · rename_i e
    rw [if_pos e] at k
    exact rounded_ok k
  · rename_i e
    rw [if_neg e] at k
    exact k
theorem init_v1_ok {l : List Int} {Kf : D_Word → Prop} (h : Ltk 26 l) (hl : l.length ≤ 500) (k : Kf (mkW l)) : m_Word___init___v1 l Kf := by
  unfold m_Word___init___v1
  refine are_letters_v1_ok h (by omega) ?_
  rw [if_neg (by simp)]
  refine need_few_ok (by omega) ?_
  dsimp only [mB]
  refine ⟨by omega, mMap_det (fun x : Int => (x.natAbs : Int)) (fun _ _ _ h => h) ⟨kinds_few h, are_short_ok (by omega) ?_⟩⟩
  unfold mkW at k
  split
  · rename_i e
    rw [if_pos e] at k
    exact rounded_ok k
  · rename_i e
    rw [if_neg e] at k
    exact k
theorem pile_step {s : List Int} {x : Int} {r l : List Int} (h1 : Rd s) (h2 : red (s ++ x :: r) = red l) :
    ((∃ v, s.getLast? = some v ∧ v = -x) → Rd s.dropLast ∧ red (s.dropLast ++ r) = red l) ∧ ((∀ v, s.getLast? = some v → v ≠ -x) → Rd (s ++ [x]) ∧ red (s ++ [x] ++ r) = red l) := by
  constructor
  · rintro ⟨v, hv, rfl⟩
    have hne : s ≠ [] := by intro z; subst z; cases hv
    have e : s = s.dropLast ++ [-x] := by
      have h5 : s.getLast hne = -x := by
        rw [List.getLast?_eq_some_getLast hne] at hv
        exact Option.some.inj hv
      conv => lhs; rw [← List.dropLast_concat_getLast hne, h5]
    rw [e] at h1 h2
    refine ⟨rd_left h1, ?_⟩
    have : s.dropLast ++ [-x] ++ x :: r = s.dropLast ++ (-x) :: -(-x) :: r := by simp
    rw [this, red_cancel] at h2
    exact h2
  · intro h
    refine ⟨rd_append.mpr ⟨h1, trivial, fun a b ha hb => ?_⟩, by rw [← h2]; simp⟩
    simp at hb
    subst hb
    exact h a ha
theorem shortened_ok {l : List Int} {Kf : List Int → Prop} (hl : l.length ≤ 100000) (k : Kf (red l)) : m_shortened_of l Kf := by
  unfold m_shortened_of
  refine ⟨by simp, ?_⟩
  refine mFor_inv (fun r s => Rd s ∧ red (s ++ r) = red l ∧ s.length + r.length ≤ l.length) (by exact ⟨trivial, rfl, by simp⟩) (fun x r s K ⟨h1, h2, h3⟩ hk => ?_) (fun s ⟨h1, h2, h3⟩ => ?_)
  · simp at h3
    have st := pile_step h1 h2
    have push : (∀ v, s.getLast? = some v → v ≠ -x) → s.length ≤ 1000000 ∧ K (s ++ [x]) := fun hv => ⟨by omega, hk _ ⟨(st.2 hv).1, (st.2 hv).2, by simp; omega⟩⟩
    dsimp only [mB]
    split
    · rename_i hne
      have hne : s ≠ [] := by
        intro z; subst z; simp at hne
      refine ⟨s.getLast hne, by rw [pyAt_last, List.getLast?_eq_some_getLast hne], ?_⟩
      unfold mIf
      split
      · rename_i e
        have e := of_decide_eq_true e
        have hg : s.getLast? = some (s.getLast hne) := List.getLast?_eq_some_getLast hne
        refine ⟨s.getLast hne, by rw [← List.getLast?_eq_getElem?, hg], hk _ ⟨(st.1 ⟨_, hg, e⟩).1, (st.1 ⟨_, hg, e⟩).2, by simp; omega⟩⟩
      · rename_i e
        have e : ¬ s.getLast hne = -x := fun z => e (decide_eq_true z)
        exact push fun v hv => by
          rw [List.getLast?_eq_some_getLast hne] at hv
          cases hv
          exact e
    · rename_i hne
      have hne : s = [] := by
        cases s with
        | nil => rfl
        | cons a b => simp at hne
      unfold mIf
      rw [if_neg (by simp)]
      exact push fun v hv => by rw [hne] at hv; cases hv
  · rw [List.append_nil] at h2
    rw [← red_of h1, h2]
    exact k
theorem core_le (l : List Int) : (core l).length ≤ l.length := by
  obtain ⟨k, h⟩ := core_len l
  omega
theorem W_contrary_ok {l : List Int} {Kf : D_Word → Prop} (h : Ltk 26 l) (hl : l.length ≤ 500) (k : Kf (mkW (inv l))) : m_Word_contrary (mkW l) Kf := by
  unfold m_Word_contrary
  exact contrary_of_ok (by show l.length ≤ _; omega) (init_ok h.inv (by rw [inv_len]; exact hl) k)
theorem W_then_ok {a b : List Int} {Kf : D_Word → Prop} (h : Ltk 26 a) (h' : Ltk 26 b) (hl : a.length + b.length ≤ 500) (k : Kf (mkW (a ++ b))) : m_Word_then (mkW a) (mkW b) Kf := by
  unfold m_Word_then m_need_word
  rw [if_neg (by simp)]
  exact ⟨by show a.length + b.length ≤ _; omega, init_ok (h.app h') (by rw [List.length_append]; exact hl) k⟩
theorem eqW_mk (a b : List Int) : eqW (mkW a) (mkW b) = decide (a = b) := rfl
theorem need_number_ok {n : Int} {p : Str} {Kf : Unit → Prop} (k : Kf ()) : m_need_number n p () () Kf := by
  unfold m_need_number m_is_within_v1 m_is_integer
  simp only [mB, Bool.not_false, Bool.not_true, if_true, if_false, Bool.false_eq_true]
  exact k
end G
namespace G
open PySem L2 TL WM
theorem pick_ok {xs : List (List Int)} {t : Jar} {n : Nat} {Kf : List Int → Jar → Prop} (h0 : xs ≠ []) (h1 : xs.length < 1000000) (hn : n < 1048576) (J : JOk n t) (k : ∀ x t', x ∈ xs → JOk (n + 1) t' → Kf x t') : m_l_pick xs t Kf := by
  have hl : 0 < xs.length := List.length_pos_iff.mpr h0
  unfold m_l_pick
  refine draw_ok (by omega) (by omega) hn J fun x t' q1 q2 j => ?_
  obtain ⟨y, e1, e2⟩ := pyAt_get (xs := xs) q1 q2
  exact ⟨y, e1, k y t' (List.mem_of_getElem? e2) j⟩
theorem l_contrary_ok {l : List Int} {Kf : List Int → Prop} (h : l.length ≤ 1000000) (k : Kf (inv l)) : m_l_contrary l Kf := by
  unfold m_l_contrary
  exact ⟨by rw [List.length_reverse]; exact h, mMap_det (fun x => -x) (fun _ _ _ h => h) k⟩
theorem pyCut_last {α : Type} {xs : List α} (h : xs ≠ []) : pyCut xs none (some (-(1 : Int))) = xs.dropLast := by
  have hp : 0 < xs.length := List.length_pos_iff.mpr h
  unfold pyCut HT.sIx
  rw [List.dropLast_eq_take]
  simp
  congr 1
  omega
theorem l_short_ok {l : List Int} {Kf : List Int → Prop} (hl : l.length ≤ 100000) (k : Kf (red l)) : m_l_short l Kf := by
  unfold m_l_short
  refine ⟨by simp, ?_⟩
  refine mFor_inv (fun r s => Rd s ∧ red (s ++ r) = red l ∧ s.length + r.length ≤ l.length) (by exact ⟨trivial, rfl, by simp⟩) (fun x r s K ⟨h1, h2, h3⟩ hk => ?_) (fun s ⟨h1, h2, h3⟩ => ?_)
  · simp at h3
    have st := pile_step h1 h2
    have push : (∀ v, s.getLast? = some v → v ≠ -x) → s.length + 1 ≤ 1000000 ∧ K (s ++ [x]) := fun hv => ⟨by omega, hk _ ⟨(st.2 hv).1, (st.2 hv).2, by simp; omega⟩⟩
    dsimp only [mB]
    refine ⟨by simp, ?_⟩
    split
    · rename_i hne
      have hne : s ≠ [] := by
        intro z; subst z; simp at hne
      refine ⟨s.getLast hne, by rw [pyAt_last, List.getLast?_eq_some_getLast hne], ?_⟩
      unfold mIf
      split
      · rename_i e
        have e := of_decide_eq_true e
        have hg : s.getLast? = some (s.getLast hne) := List.getLast?_eq_some_getLast hne
        rw [pyCut_last hne]
        exact hk _ ⟨(st.1 ⟨_, hg, e⟩).1, (st.1 ⟨_, hg, e⟩).2, by simp; omega⟩
      · rename_i e
        have e : ¬ s.getLast hne = -x := fun z => e (decide_eq_true z)
        exact ⟨by simp, push fun v hv => by
          rw [List.getLast?_eq_some_getLast hne] at hv
          cases hv
          exact e⟩
    · rename_i hne
      have hne : s = [] := by
        cases s with
        | nil => rfl
        | cons a b => simp at hne
      unfold mIf
      rw [if_neg (by simp)]
      exact ⟨by simp, push fun v hv => by rw [hne] at hv; cases hv⟩
  · rw [List.append_nil] at h2
    rw [← red_of h1, h2]
    exact k
/-! ### the list of words -/
def exts (L w : List Int) : List (List Int) := (L.filter fun x => decide (w = []) || !decide (x = -(w.getLast?.getD 0))).map fun x => w ++ [x]
def lev (L : List Int) : Nat → List (List Int)
  | 0 => [[]]
  | t + 1 => (lev L t).flatMap (exts L)
def levs (L : List Int) (n : Nat) : List (List Int) := (List.range (n + 1)).flatMap (lev L)
theorem levs_succ (L : List Int) (n : Nat) : levs L (n + 1) = levs L n ++ lev L (n + 1) := by
  unfold levs
  rw [List.range_succ, List.flatMap_append]
  simp
theorem flat_len {α β : Type} {f : α → List β} {n : Nat} : ∀ {l : List α}, (∀ x ∈ l, (f x).length ≤ n) → (l.flatMap f).length ≤ l.length * n
  | [], _ => by simp
  | x :: l, h => by
    rw [List.flatMap_cons, List.length_append, List.length_cons, Nat.succ_mul]
    have := h x List.mem_cons_self
    have := flat_len (l := l) fun y hy => h y (List.mem_cons_of_mem _ hy)
    omega
theorem lev_len {L : List Int} (hL : L.length ≤ 4) : ∀ t, (lev L t).length ≤ 4 ^ t
  | 0 => by simp [lev]
  | t + 1 => by
    have ih := lev_len hL t
    have := flat_len (f := exts L) (n := 4) (l := lev L t) fun x _ => by
      unfold exts
      rw [List.length_map]
      exact Nat.le_trans (List.length_filter_le _ _) hL
    show ((lev L t).flatMap (exts L)).length ≤ _
    rw [Nat.pow_succ]
    omega
theorem levs_len {L : List Int} (hL : L.length ≤ 4) {n : Nat} (hn : n ≤ 3) : (levs L n).length ≤ 256 := by
  have := flat_len (f := lev L) (n := 64) (l := List.range (n + 1)) fun t ht => by
    rw [List.mem_range] at ht
    refine Nat.le_trans (lev_len hL t) ?_
    have : t ≤ 3 := by omega
    calc 4 ^ t ≤ 4 ^ 3 := Nat.pow_le_pow_right (by omega) this
      _ = 64 := by decide
  rw [List.length_range] at this
  unfold levs
  have : (n + 1) * 64 ≤ 256 := by omega
  omega
theorem lev_mem {L : List Int} : ∀ (t : Nat) (w : List Int), w ∈ lev L t ↔ w.length = t ∧ Rd w ∧ ∀ x ∈ w, x ∈ L
  | 0, w => by
    simp only [lev, List.mem_singleton]
    constructor
    · rintro rfl; exact ⟨rfl, trivial, fun x hx => by simp at hx⟩
    · rintro ⟨h, _⟩; exact List.eq_nil_of_length_eq_zero h
  | t + 1, w => by
    show w ∈ (lev L t).flatMap (exts L) ↔ _
    rw [List.mem_flatMap]
    constructor
    · rintro ⟨v, hv, hw⟩
      obtain ⟨h1, h2, h3⟩ := (lev_mem t v).mp hv
      unfold exts at hw
      rw [List.mem_map] at hw
      obtain ⟨x, hx, rfl⟩ := hw
      rw [List.mem_filter, Bool.or_eq_true, decide_eq_true_eq, Bool.not_eq_true', decide_eq_false_iff_not] at hx
      refine ⟨by simp [h1], rd_append.mpr ⟨h2, trivial, fun a b ha hb => ?_⟩, fun y hy => ?_⟩
      · simp at hb
        subst hb
        rcases hx.2 with z | z
        · subst z; cases ha
        · rw [ha] at z
          intro e
          exact z (by show x = -a; omega)
      · rcases List.mem_append.mp hy with hy | hy
        · exact h3 y hy
        · simp at hy; subst hy; exact hx.1
    · rintro ⟨h1, h2, h3⟩
      have hne : w ≠ [] := fun z => by subst z; simp at h1
      have e := List.dropLast_concat_getLast hne
      refine ⟨w.dropLast, (lev_mem t _).mpr ⟨by simp [h1], ?_, fun x hx => h3 x ((List.dropLast_sublist w).subset hx)⟩, ?_⟩
      · rw [← e] at h2; exact rd_left h2
      · unfold exts
        rw [List.mem_map]
        refine ⟨w.getLast hne, List.mem_filter.mpr ⟨h3 _ (List.getLast_mem hne), ?_⟩, e⟩
        rw [Bool.or_eq_true, decide_eq_true_eq, Bool.not_eq_true', decide_eq_false_iff_not]
        by_cases hd : w.dropLast = []
        · exact .inl hd
        · right
          rw [List.getLast?_eq_some_getLast hd]
          rw [← e] at h2
          have := (rd_append.mp h2).2.2 _ (w.getLast hne) (List.getLast?_eq_some_getLast hd) rfl
          intro z
          exact this (by show w.dropLast.getLast hd = -(w.getLast hne); rw [z]; simp)
theorem levs_mem {L : List Int} {n : Nat} {w : List Int} : w ∈ levs L n ↔ w.length ≤ n ∧ Rd w ∧ ∀ x ∈ w, x ∈ L := by
  unfold levs
  rw [List.mem_flatMap]
  constructor
  · rintro ⟨t, ht, hw⟩
    rw [List.mem_range] at ht
    obtain ⟨h1, h2⟩ := (lev_mem t w).mp hw
    exact ⟨by omega, h2⟩
  · rintro ⟨h1, h2⟩
    exact ⟨w.length, List.mem_range.mpr (by omega), (lev_mem _ w).mpr ⟨rfl, h2⟩⟩
theorem levs_head (L : List Int) (n : Nat) : ∃ r, levs L n = [] :: r ∧ ∀ w ∈ r, w ≠ [] := by
  unfold levs
  rw [List.range_succ_eq_map, List.flatMap_cons]
  refine ⟨(List.map Nat.succ (List.range n)).flatMap (lev L), rfl, fun w hw => ?_⟩
  rw [List.mem_flatMap] at hw
  obtain ⟨t, ht, hw⟩ := hw
  rw [List.mem_map] at ht
  obtain ⟨u, _, rfl⟩ := ht
  have := ((lev_mem _ w).mp hw).1
  intro z
  subst z
  simp at this
theorem words_ok {kinds : List Int} {Kf : List (List Int) → Prop} (hk : kinds.length = 2) (k : Kf (levs (kinds ++ kinds.map fun x => -x) 3)) : m_l_words kinds 3 Kf := by
  unfold m_l_words
  refine ⟨by simp, by simp, by simp, by simp, by omega, mMap_det (fun x => -x) (fun _ _ _ h => h) ⟨by rw [List.length_map]; omega, by omega, ?_⟩⟩
  generalize hL : kinds ++ kinds.map (fun x => -x) = L at k ⊢
  have hl : L.length ≤ 4 := by rw [← hL, List.length_append, List.length_map]; omega
  have hr : (rangeL 0 (3 : Int)).length = 3 := by rw [rangeL_len]; rfl
  refine mFor_n (fun n s => s.1 = levs L n ∧ s.2 = lev L n) ⟨rfl, rfl⟩ (fun n x s K hn _ ⟨h1, h2⟩ hK => ?_) (fun s ⟨h1, h2⟩ => ?_)
  · rw [hr] at hn
    refine ⟨by simp, ?_⟩
    have hlev : (lev L (n + 1)).length ≤ 64 := Nat.le_trans (lev_len hl _) (by
      calc 4 ^ (n + 1) ≤ 4 ^ 3 := Nat.pow_le_pow_right (by omega) (by omega)
        _ = 64 := by decide)
    refine mFor_inv (fun r s => s.1 = levs L n ∧ s.2.1 = lev L n ∧ s.2.2 ++ r.flatMap (exts L) = lev L (n + 1) ∧ ∀ w ∈ r, w.length = n) ⟨h1, h2, by rw [h2]; rfl, fun w hw => by rw [h2] at hw; exact ((lev_mem n w).mp hw).1⟩ (fun w r s' K' ⟨g1, g2, g3, g4⟩ hK' => ?_) (fun s' ⟨g1, g2, g3, _⟩ => ?_)
    · refine ⟨by show L.length ≤ _; omega, ?_⟩
      refine mMapIf_det (fun x => decide (w = []) || !decide (x = -(w.getLast?.getD 0))) (fun x => w ++ [x]) (fun x _ K2 hK2 => ?_) (fun x _ _ K2 hK2 => ?_) ?_
      · dsimp only [mB]
        refine ⟨by simp, ?_⟩
        by_cases hw : w = []
        · rw [if_pos (decide_eq_true hw)]
          simpa [hw] using hK2
        · rw [if_neg (by simp [hw])]
          refine ⟨w.getLast hw, by rw [pyAt_last, List.getLast?_eq_some_getLast hw], ?_⟩
          simpa [hw, List.getLast?_eq_some_getLast hw] using hK2
      · have hwl := g4 w List.mem_cons_self
        exact ⟨by simp, by simp; omega, hK2⟩
      · have e : (L.filter fun x => decide (w = []) || !decide (x = -(w.getLast?.getD 0))).map (fun x => w ++ [x]) = exts L w := rfl
        rw [e]
        have g3' : s'.2.2 ++ exts L w ++ r.flatMap (exts L) = lev L (n + 1) := by rw [← g3, List.flatMap_cons, List.append_assoc]
        have hlen := congrArg List.length g3'
        rw [List.length_append, List.length_append] at hlen
        exact ⟨by omega, hK' _ ⟨g1, g2, g3', fun v hv => g4 v (List.mem_cons_of_mem _ hv)⟩⟩
    · rw [List.flatMap_nil, List.append_nil] at g3
      have hz := levs_len hl (n := n) (by omega)
      refine ⟨by rw [g1, g3]; omega, hK _ ⟨?_, g3⟩⟩
      show s'.1 ++ s'.2.2 = levs L (n + 1)
      rw [g1, g3, levs_succ]
  · rw [hr] at h1
    rw [h1]
    exact k
end G
namespace G
open PySem L2 TL WM
/-! ### the table of powers -/
structure Tab (d : List (List Int × List Int)) (ps : List (List Int × Int)) : Prop where
  mem : ∀ w n, n ∈ (dget d w).getD [] ↔ (w, n) ∈ ps
  len : d.length ≤ ps.length
  each : ∀ w, ((dget d w).getD []).length ≤ ps.length
theorem Tab.put {d : List (List Int × List Int)} {ps : List (List Int × Int)} (h : Tab d ps) (w : List Int) (n : Int) : Tab (dput d w ((dget d w).getD [] ++ [n])) (ps ++ [(w, n)]) := by
  refine ⟨fun v m => ?_, ?_, fun v => ?_⟩
  · rw [dget_put]
    by_cases e : v = w
    · subst e
      rw [if_pos rfl]
      simp only [Option.getD_some, List.mem_append, List.mem_singleton, h.mem v m, Prod.mk.injEq, true_and]
    · rw [if_neg e, h.mem]
      simp [e]
  · have := dput_len d w ((dget d w).getD [] ++ [n])
    have := h.len
    simp only [List.length_append, List.length_cons, List.length_nil]
    omega
  · rw [dget_put]
    have := h.each w
    have := h.each v
    by_cases e : v = w
    · rw [if_pos e]
      simp only [Option.getD_some, List.length_append, List.length_cons, List.length_nil]
      omega
    · rw [if_neg e]
      simp only [List.length_append, List.length_cons, List.length_nil]
      omega
def pts (i : Int) (v : List Int) (k : Nat) : List (List Int × Int) := (List.range k).map fun j => (red (rep (j + 1) v), i)
theorem pts_len (i : Int) (v : List Int) (k : Nat) : (pts i v k).length = k := by simp [pts]
theorem pts_succ (i : Int) (v : List Int) (k : Nat) : pts i v (k + 1) = pts i v k ++ [(red (rep (k + 1) v), i)] := by
  unfold pts
  rw [List.range_succ, List.map_append]
  rfl
def PS (ws : List (List Int)) : List (List Int × Int) := (enumL ws).flatMap fun p => pts p.1 p.2 12 ++ pts p.1 (inv p.2) 12
theorem powers_ok {ws : List (List Int)} {Kf : List (List Int × List Int) → Prop} (h : ∀ w ∈ ws, w.length ≤ 3) (hl : ws.length ≤ 1000) (k : ∀ d, Tab d (PS ws) → Kf d) : m_l_powers ws Kf := by
  unfold m_l_powers
  have hen : (enumL ws).length ≤ 1000 := by unfold enumL; rw [List.length_zip, rangeL_len]; omega
  have hps : (PS ws).length ≤ 24000 := by
    have := flat_len (f := fun p : Int × List Int => pts p.1 p.2 12 ++ pts p.1 (inv p.2) 12) (n := 24) (l := enumL ws) fun p _ => by rw [List.length_append, pts_len, pts_len]; exact Nat.le_refl _
    unfold PS
    omega
  have hmem : ∀ p ∈ enumL ws, p.2.length ≤ 3 := fun p hp => by
    unfold enumL at hp
    exact h _ (List.of_mem_zip hp).2
  refine mFor_inv (fun r s => (∀ p ∈ r, p.2.length ≤ 3) ∧ ∃ ps, Tab s ps ∧ ps ++ r.flatMap (fun p => pts p.1 p.2 12 ++ pts p.1 (inv p.2) 12) = PS ws) ⟨hmem, [], ⟨fun w n => by simp [dget], by simp, fun w => by simp [dget]⟩, rfl⟩ (fun p r s K ⟨g1, ps, g2, g3⟩ hK => ?_) (fun s ⟨_, ps, g2, g3⟩ => ?_)
  · have hp3 := g1 p List.mem_cons_self
    refine l_contrary_ok (by omega) ⟨by simp, ?_⟩
    have hr : (rangeL 0 (12 : Int)).length = 12 := by rw [rangeL_len]; rfl
    have hlen := congrArg List.length g3
    rw [List.flatMap_cons, List.length_append, List.length_append, List.length_append, pts_len, pts_len] at hlen
    refine mFor_inv (fun vs s => (∀ v ∈ vs, v.length ≤ 3) ∧ ∃ ps1, Tab s ps1 ∧ ps1 ++ vs.flatMap (fun v => pts p.1 v 12) = ps ++ (pts p.1 p.2 12 ++ pts p.1 (inv p.2) 12)) ⟨fun v hv => ?_, ps, g2, by simp⟩ (fun v vs s0 K0 ⟨q1, ps0, q2, q3⟩ hK0 => ?_) (fun s0 ⟨_, ps0, q2, q3⟩ => ?_)
    · simp only [List.mem_cons, List.not_mem_nil, or_false] at hv
      rcases hv with rfl | rfl
      · exact hp3
      · rw [inv_len]; exact hp3
    · have hv := q1 v List.mem_cons_self
      have hl3 := congrArg List.length q3
      rw [List.flatMap_cons, List.length_append, List.length_append, List.length_append, List.length_append, pts_len, pts_len, pts_len] at hl3
      refine ⟨by simp, by omega, ?_⟩
      refine mFor_n (fun n s => Tab s.1 (ps0 ++ pts p.1 v n) ∧ s.2 = red (rep n v)) ⟨by simpa [pts] using q2, rfl⟩ (fun n x s K' hn _ ⟨t1, t2⟩ hK' => ?_) (fun s ⟨t1, t2⟩ => ?_)
      · rw [hr] at hn
        have hlr : (red (rep n v)).length ≤ 36 := by
          have a := red_len (rep n v)
          rw [rep_len] at a
          have : n * v.length ≤ 12 * 3 := Nat.mul_le_mul (by omega) hv
          omega
        refine ⟨by rw [t2]; omega, l_short_ok (by rw [t2, List.length_append]; omega) ?_⟩
        have e : red (s.2 ++ v) = red (rep (n + 1) v) := by rw [t2, red_red_app, ← rep_succ']
        rw [e]
        have a1 := t1.len
        have a2 := t1.each (red (rep (n + 1) v))
        rw [List.length_append, pts_len] at a1 a2
        refine ⟨by simp, by simp, by simp only [List.length_cons, List.length_nil]; omega, by omega, hK' _ ⟨?_, rfl⟩⟩
        rw [pts_succ, ← List.append_assoc]
        exact t1.put _ _
      · rw [hr] at t1
        refine hK0 _ ⟨fun u hu => q1 u (List.mem_cons_of_mem _ hu), _, t1, ?_⟩
        rw [← q3, List.flatMap_cons, List.append_assoc]
    · rw [List.flatMap_nil, List.append_nil] at q3
      rw [q3] at q2
      refine hK _ ⟨fun q hq => g1 q (List.mem_cons_of_mem _ hq), _, q2, ?_⟩
      rw [← g3, List.flatMap_cons, List.append_assoc]
  · rw [List.flatMap_nil, List.append_nil] at g3
    rw [g3] at g2
    exact k s g2
theorem enum_mem {α : Type} {xs : List α} {n : Int} {v : α} : (n, v) ∈ enumL xs ↔ ∃ i : Nat, n = i ∧ xs[i]? = some v := by
  unfold enumL
  rw [List.mem_iff_getElem?]
  constructor
  · rintro ⟨i, hi⟩
    obtain ⟨h1, h2⟩ := zipGet hi
    refine ⟨i, ?_, h2⟩
    unfold rangeL at h1
    rw [List.getElem?_map] at h1
    obtain ⟨j, hj, e⟩ := Option.map_eq_some_iff.mp h1
    have := List.getElem?_range (n := ((xs.length : Int) - 0).toNat) (i := i) (by
      have := (List.getElem?_eq_some_iff.mp h2).1
      omega)
    rw [this] at hj
    cases hj
    have e : 0 + (i : Int) = n := e
    omega
  · rintro ⟨i, rfl, h⟩
    have hi := (List.getElem?_eq_some_iff.mp h).1
    refine ⟨i, ?_⟩
    rw [List.getElem?_zip_eq_some]
    refine ⟨?_, h⟩
    unfold rangeL
    rw [List.getElem?_map, List.getElem?_range (by omega)]
    show some (0 + (i : Int)) = some (i : Int)
    congr 1
    omega
theorem PS_mem {ws : List (List Int)} {w : List Int} {n : Int} : (w, n) ∈ PS ws ↔ ∃ v j, (n, v) ∈ enumL ws ∧ j < 12 ∧ (w = red (rep (j + 1) v) ∨ w = red (rep (j + 1) (inv v))) := by
  unfold PS pts
  rw [List.mem_flatMap]
  constructor
  · rintro ⟨⟨m, v⟩, hp, h⟩
    rw [List.mem_append, List.mem_map, List.mem_map] at h
    rcases h with ⟨j, hj, e⟩ | ⟨j, hj, e⟩
    · cases e
      exact ⟨v, j, hp, List.mem_range.mp hj, .inl rfl⟩
    · cases e
      exact ⟨v, j, hp, List.mem_range.mp hj, .inr rfl⟩
  · rintro ⟨v, j, hp, hj, h⟩
    refine ⟨(n, v), hp, ?_⟩
    rw [List.mem_append, List.mem_map, List.mem_map]
    rcases h with h | h
    · exact .inl ⟨j, List.mem_range.mpr hj, by rw [h]⟩
    · exact .inr ⟨j, List.mem_range.mpr hj, by rw [h]⟩
/-- the listed words -/
structure LL (L : List Int) : Prop where
  nz : ∀ x ∈ L, x ≠ 0 ∧ -26 ≤ x ∧ x ≤ 26
  neg : ∀ x ∈ L, -x ∈ L
theorem pow_pass (v : List Int) (i j : Nat) : Pass (rep i v) (rep j v) := (pass_rep (pass_rep (pass_self v) i).sym j).sym
theorem known_iff {L : List Int} (hL : LL L) {ws : List (List Int)} (hws : ∀ w, w ∈ ws ↔ w ≠ [] ∧ w.length ≤ 3 ∧ Rd w ∧ ∀ x ∈ w, x ∈ L) {a b : List Int} (ha : Rt a) (hb : Rt b) (la : a.length ≤ 12) (lb : b.length ≤ 3) (ma : ∀ x ∈ a, x ∈ L) (mb : ∀ x ∈ b, x ∈ L) :
    (∃ n, (a, n) ∈ PS ws ∧ (b, n) ∈ PS ws) ↔ Pass a b := by
  constructor
  · rintro ⟨n, h1, h2⟩
    obtain ⟨v, i, e1, _, f1⟩ := PS_mem.mp h1
    obtain ⟨v', j, e2, _, f2⟩ := PS_mem.mp h2
    obtain ⟨p, rfl, q⟩ := enum_mem.mp e1
    obtain ⟨p', hp, q'⟩ := enum_mem.mp e2
    have : p = p' := by omega
    subst this
    rw [q] at q'
    cases q'
    have key : ∀ i j, Pass (rep i v) (rep j v) := fun i j => pow_pass v i j
    have key2 : ∀ i j, Pass (rep i v) (rep j (inv v)) := fun i j => by rw [← inv_rep]; exact pass_inv (key i j)
    have key3 : ∀ i j, Pass (rep i (inv v)) (rep j (inv v)) := fun i j => pow_pass (inv v) i j
    rcases f1 with rfl | rfl <;> rcases f2 with rfl | rfl
    · exact pass_red.mpr (pass_red.mpr (key _ _).sym).sym
    · exact pass_red.mpr (pass_red.mpr (key2 _ _).sym).sym
    · exact pass_red.mpr (pass_red.mpr (key2 _ _)).sym
    · exact pass_red.mpr (pass_red.mpr (key3 _ _).sym).sym
  · intro h
    have hr : root b ∈ ws := (hws _).mpr ⟨hb.root.ne, Nat.le_trans (root_len b) lb, hb.root.rd, fun x hx => mb x (root_mem hx)⟩
    obtain ⟨i, hi⟩ := List.mem_iff_getElem?.mp hr
    refine ⟨i, PS_mem.mpr ?_, PS_mem.mpr ?_⟩
    · obtain ⟨m, hm, hl⟩ := ha.times
      refine ⟨root b, m, enum_mem.mpr ⟨i, rfl, hi⟩, by omega, ?_⟩
      rcases one_root hb ha h.sym with e | e
      · rw [e] at hm; exact .inl hm
      · rw [e] at hm; exact .inr hm
    · obtain ⟨m, hm, hl⟩ := hb.times
      exact ⟨root b, m, enum_mem.mpr ⟨i, rfl, hi⟩, by omega, .inl hm⟩
theorem of_one_ok {d : List (List Int × List Int)} {ps : List (List Int × Int)} {a b : List Int} {Kf : Bool → Prop} (h : Tab d ps) (hl : ps.length ≤ 1000000) (k : ∀ r : Bool, (r = true ↔ a = [] ∨ b = [] ∨ ∃ n, (a, n) ∈ ps ∧ (b, n) ∈ ps) → Kf r) : m_l_are_of_one d a b Kf := by
  unfold m_l_are_of_one
  dsimp only [mB]
  refine ⟨by simp, ?_⟩
  have fin : ¬ (a = [] ∨ b = []) → (([] : List Int).length ≤ 1000000 ∧ (((dget d a).getD ([] : List Int)).length ≤ 1000000 ∧ mMapIf ((dget d a).getD ([] : List Int)) (fun (x91 : Int) K94 => (([] : List Int).length ≤ 1000000 ∧ K94 (memB x91 ((dget d b).getD ([] : List Int))))) (fun (x91 : Int) K93 => K93 x91) fun ys98 => (([] : List Int).length ≤ 1000000 ∧ Kf (!decide (ys98 = ([] : List Int)))))) := fun hn => by
    refine ⟨by simp, by have := h.each a; omega, mMapIf_det (fun x => memB x ((dget d b).getD [])) (fun x => x) (fun x _ K hK => ⟨by simp, hK⟩) (fun x _ _ K hK => hK) ⟨by simp, k _ ?_⟩⟩
    rw [Bool.not_eq_true', decide_eq_false_iff_not, List.map_id']
    constructor
    · intro hne
      obtain ⟨n, hn'⟩ := List.exists_mem_of_ne_nil _ hne
      rw [List.mem_filter] at hn'
      have h2 : n ∈ (dget d b).getD [] := of_decide_eq_true hn'.2
      exact .inr (.inr ⟨n, (h.mem a n).mp hn'.1, (h.mem b n).mp h2⟩)
    · rintro (z | z | ⟨n, h1, h2⟩)
      · exact absurd (.inl z) hn
      · exact absurd (.inr z) hn
      · intro z
        have : n ∈ List.filter (fun x => memB x ((dget d b).getD [])) ((dget d a).getD []) := List.mem_filter.mpr ⟨(h.mem a n).mpr h1, decide_eq_true ((h.mem b n).mpr h2)⟩
        rw [z] at this
        cases this
  by_cases ha : a = []
  · rw [if_pos (decide_eq_true ha), if_pos rfl]
    exact k true ⟨fun _ => .inl ha, fun _ => rfl⟩
  · rw [if_neg (by simp [ha])]
    refine ⟨by simp, ?_⟩
    by_cases hb : b = []
    · rw [if_pos (decide_eq_true hb)]
      exact k true ⟨fun _ => .inr (.inl hb), fun _ => rfl⟩
    · rw [if_neg (by simp [hb])]
      exact fin (by rintro (z | z) <;> contradiction)
end G
namespace G
open PySem L2 TL WM
theorem rangeL_cons {a b : Int} (h : a < b) : rangeL a b = a :: rangeL (a + 1) b := by
  unfold rangeL
  obtain ⟨n, hn⟩ : ∃ n, (b - a).toNat = n + 1 := ⟨(b - a).toNat - 1, by omega⟩
  rw [hn, show (b - (a + 1)).toNat = n from by omega, List.range_succ_eq_map, List.map_cons, List.map_map]
  congr 1
  · show a + ((0 : Nat) : Int) = a; omega
  · refine List.map_congr_left fun i _ => ?_
    show a + ((i + 1 : Nat) : Int) = a + 1 + (i : Int)
    omega
theorem rangeL_nil {a b : Int} (h : b ≤ a) : rangeL a b = [] := by
  unfold rangeL
  rw [show (b - a).toNat = 0 from by omega]
  rfl
theorem fmod_nat (a b : Nat) : (a : Int).fmod b = ((a % b : Nat) : Int) := by
  rw [Int.fmod_eq_emod_of_nonneg _ (by omega)]
  rfl
theorem fdiv_nat (a b : Nat) : (a : Int).fdiv b = ((a / b : Nat) : Int) := by
  rw [Int.fdiv_eq_ediv_of_nonneg _ (by omega)]
  rfl
theorem pyRep_nat (l : List Int) (k : Nat) : pyRep l (k : Int) = rep k l := by unfold pyRep rep; rw [Int.toNat_natCast]
theorem lpS_is {c : List Int} (hc : c ≠ []) {s : Nat} (hs : 0 < s) (h : isP c s = true) (hm : ∀ j, 0 < j → j < s → isP c j = false) : lpS c = s := by
  obtain ⟨h1, h2, h3⟩ := lpS_spec hc
  rcases Nat.lt_trichotomy (lpS c) s with q | q | q
  · rw [hm _ h1 q] at h2; cases h2
  · exact q
  · rw [h3 s hs q] at h; cases h
theorem piece_ok {c : List Int} {Kf : List Int → Prop} (hc : c ≠ []) (hl : c.length ≤ 1000) (k : Kf (lp c)) : m_least_piece c Kf := by
  unfold m_least_piece
  refine ⟨⟨by omega, by omega, by omega, by omega⟩, ?_⟩
  have hp := len_pos hc
  refine mFor_inv (fun r _ => ∃ i : Nat, 0 < i ∧ i ≤ c.length ∧ r = rangeL i c.length ∧ ∀ j, 0 < j → j < i → isP c j = false) ⟨1, by omega, by omega, rfl, fun j h1 h2 => by omega⟩ (fun x r _ K ⟨i, h1, h2, h3, h4⟩ hK => ?_) (fun _ ⟨i, h1, h2, h3, h4⟩ => ?_)
  · have hlt : i < c.length := by
      rcases Nat.lt_or_ge i c.length with q | q
      · exact q
      · rw [rangeL_nil (by omega)] at h3; cases h3
    rw [rangeL_cons (by omega)] at h3
    obtain ⟨rfl, rfl⟩ := List.cons.inj h3
    dsimp only [mB]
    refine ⟨by omega, ?_⟩
    have nx : isP c i = false → K () := fun hf => hK () ⟨i + 1, by omega, by omega, rfl, fun j j1 j2 => by
      rcases Nat.lt_or_ge j i with q | q
      · exact h4 j j1 q
      · rw [show j = i from by omega]; exact hf⟩
    rw [fmod_nat, fdiv_nat]
    by_cases hm : c.length % i = 0
    · rw [if_pos (decide_eq_true (by rw [hm]; rfl))]
      have hmul : i * (c.length / i) ≤ c.length := Nat.mul_div_le _ _
      have hdl : c.length / i ≤ c.length := Nat.div_le_self _ _
      have hq : (0 : Int) ≤ (c.length : Int) / (i : Int) := Int.ediv_nonneg (by omega) (by omega)
      refine ⟨⟨by omega, by omega⟩, ⟨by omega, by omega, ?_⟩, ?_⟩
      · rw [pyCut_take (by omega), Int.toNat_natCast, Int.toNat_natCast, List.length_take]
        have : min i c.length * (c.length / i) ≤ i * (c.length / i) := Nat.mul_le_mul_right _ (Nat.min_le_left _ _)
        omega
      · rw [pyCut_take (by omega), Int.toNat_natCast, pyRep_nat]
        by_cases hr : rep (c.length / i) (c.take i) = c
        · rw [if_pos (decide_eq_true hr)]
          have hP : isP c i = true := by unfold isP; rw [Bool.and_eq_true, decide_eq_true_eq, decide_eq_true_eq]; exact ⟨hm, hr⟩
          have := lpS_is hc h1 hP h4
          unfold lp at k
          rw [this] at k
          exact k
        · rw [if_neg (by simp [hr])]
          exact nx (by unfold isP; rw [Bool.and_eq_false_iff]; exact .inr (by simp [hr]))
    · rw [if_neg (by simp only [decide_eq_true_eq]; omega), if_neg (by simp)]
      exact nx (by unfold isP; rw [Bool.and_eq_false_iff]; exact .inl (by simp [hm]))
  · have he : i = c.length := by
      rcases Nat.lt_or_ge i c.length with q | q
      · rw [rangeL_cons (by omega)] at h3; cases h3
      · omega
    subst he
    have := lpS_is hc hp ((isP_iff hc hp).mpr ⟨Nat.dvd_refl _, per_self c⟩) h4
    unfold lp at k
    rw [this, List.take_length] at k
    exact k
theorem core_le' (l : List Int) : (core l).length ≤ l.length := core_le l
theorem root_letters_ok {l : List Int} {Kf : List Int → Prop} (hc : core l ≠ []) (hl : l.length ≤ 1000) (k : Kf (root l)) : m_root_letters l Kf := by
  unfold m_root_letters
  have h1 := core_le l
  refine rounded_ok ⟨⟨by omega, by omega⟩, ?_⟩
  have e : pyCut l none (some (((l.length : Int) - ((core l).length : Int)).fdiv (2 : Int))) = ahead l := by
    have : ((l.length : Int) - ((core l).length : Int)) = ((l.length - (core l).length : Nat) : Int) := by omega
    rw [this, show (2 : Int) = ((2 : Nat) : Int) from rfl, fdiv_nat, pyCut_take (by omega), Int.toNat_natCast]
    rfl
  rw [e]
  have ha : (ahead l).length ≤ l.length := by unfold ahead; rw [List.length_take]; omega
  have hp : (lp (core l)).length ≤ (core l).length := by unfold lp; rw [List.length_take]; omega
  refine piece_ok hc (by omega) ⟨by omega, contrary_of_ok (by omega) ⟨by rw [List.length_append, inv_len]; omega, k⟩⟩
def tm (l r : List Int) : Int := if l = [] then 0 else if core l = rep ((core l).length / (core r).length) (core r) then (((core l).length / (core r).length : Nat) : Int) else -(((core l).length / (core r).length : Nat) : Int)
theorem times_in_ok {l r : List Int} {Kf : Int → Prop} (hr : core r ≠ []) (hrl : r.length ≤ 1000) (hl : l.length ≤ 1000) (k : Kf (tm l r)) : m_times_in l r Kf := by
  unfold m_times_in
  refine rounded_ok (rounded_ok ⟨by simp, ?_⟩)
  dsimp only
  have hp := len_pos hr
  have h1 := core_le l
  have h1r := core_le r
  unfold tm at k
  split
  · rename_i h
    rw [if_pos (of_decide_eq_true h)] at k
    exact k
  · rename_i h
    rw [if_neg (fun z => h (decide_eq_true z))] at k
    refine ⟨⟨by omega, by omega⟩, ?_⟩
    dsimp only [mB]
    rw [fdiv_nat]
    have hd : (core l).length / (core r).length ≤ (core l).length := Nat.div_le_self _ _
    have hq : (0 : Int) ≤ ((core l).length : Int) / ((core r).length : Int) := Int.ediv_nonneg (by omega) (by omega)
    have hm : (core r).length * ((core l).length / (core r).length) ≤ (core l).length := Nat.mul_div_le _ _
    refine ⟨⟨by omega, by omega, by rw [Int.toNat_natCast]; omega⟩, ?_⟩
    rw [pyRep_nat]
    split
    · rename_i h2
      rw [if_pos (of_decide_eq_true h2)] at k
      exact k
    · rename_i h2
      rw [if_neg (fun z => h2 (decide_eq_true z))] at k
      exact k
theorem tm_self {r : List Int} (h : Rt r) : tm r r = 1 := by
  unfold tm
  have hp := len_pos h.c
  rw [if_neg h.ne, Nat.div_self hp, if_pos (rep_one _).symm]
  rfl
theorem do_pass_ok {a b : List Int} {Kf : Bool → Prop} (hl : a.length + b.length ≤ 10000) (k : ∀ r : Bool, (r = true ↔ Pass a b) → Kf r) : m_do_pass a b Kf := by
  unfold m_do_pass
  refine ⟨by omega, shortened_ok (by rw [List.length_append]; omega) ⟨by omega, shortened_ok (by rw [List.length_append]; omega) (k _ ?_)⟩⟩
  rw [decide_eq_true_eq]
  exact Iff.rfl
theorem go_past_ok {a b : List Int} {Kf : Bool → Prop} (hl : a.length + b.length ≤ 10000) (k : ∀ r : Bool, (r = true ↔ Pass a b) → Kf r) : m_go_past (mkW a) (mkW b) Kf := by
  unfold m_go_past m_need_word
  exact do_pass_ok hl k
theorem common_root_ok {a b : List Int} {Kf : (D_Root ⊕ D_NoRoot) → Prop} (ra : Rd a) (rb : Rd b) (ha : Ltk 26 a) (hb : Ltk 26 b) (la : a.length ≤ 100) (lb : b.length ≤ 100)
    (kn : ¬ Pass a b → ∀ r, Kf (Sum.inr r)) (ky : Pass a b → ∀ r : D_Root, (a ≠ [] → r.root = mkW (root a) ∧ r.parts.2.2.1 = tm b (root a)) → Kf (Sum.inl r)) : m_common_root (mkW a) (mkW b) Kf := by
  unfold m_common_root m_need_word
  simp only [Bool.not_true, Bool.false_eq_true, if_false]
  refine shortened_ok (by show a.length ≤ _; omega) (shortened_ok (by show b.length ≤ _; omega) ?_)
  have e1 : red (mkW a).letters = a := red_of ra
  have e2 : red (mkW b).letters = b := red_of rb
  rw [e1, e2]
  refine do_pass_ok (by show a.length + b.length ≤ _; omega) fun r hr => ?_
  by_cases hp : Pass a b
  · rw [if_neg (by rw [hr.mpr hp]; simp)]
    dsimp only [mB]
    refine ⟨by simp, ?_⟩
    have both : ∀ c : List Int, c ≠ [] → Rd c → Ltk 26 c → c.length ≤ 100 → (a ≠ [] → c = a) → m_root_letters c fun r237 => m_Word___init__ r237 fun w242 => m_times_in a r237 fun r243 => m_times_in b r237 fun r244 => m_Root___init__ w242 r243 r244 fun w241 => Kf (Sum.inl w241 : (D_Root ⊕ D_NoRoot)) := by
      intro c hc rc tc lc hac
      have rt : Rt c := ⟨rc, hc, fun x hx => (tc x hx).1⟩
      have hrl := root_len c
      refine root_letters_ok rt.c (by omega) (init_ok (tc.sub fun x hx => root_mem hx) (by omega) (times_in_ok rt.root.c (by omega) (by omega) (times_in_ok rt.root.c (by omega) (by omega) ?_)))
      unfold m_Root___init__
      exact ky hp _ fun ha' => by
        have := hac ha'
        subst this
        exact ⟨rfl, rfl⟩
    by_cases h1 : a = []
    · rw [if_pos (decide_eq_true h1)]
      refine ⟨by simp, ?_⟩
      by_cases h2 : b = []
      · rw [if_pos (decide_eq_true h2)]
        refine ⟨by simp, init_v1_ok (fun x hx => by simp at hx) (by simp) ?_⟩
        unfold m_Root___init__
        exact ky hp _ fun z => absurd h1 z
      · rw [if_neg (by simp [h2])]
        refine ⟨by simp, ?_⟩
        rw [if_neg (by simp [h1])]
        exact both b h2 rb hb lb fun z => absurd h1 z
    · rw [if_neg (by simp [h1]), if_neg (by simp)]
      refine ⟨by simp, ?_⟩
      rw [if_pos (by simp [h1])]
      exact both a h1 ra ha la fun _ => rfl
  · have : r = false := by
      cases r with
      | false => rfl
      | true => exact absurd (hr.mp rfl) hp
    rw [if_pos (by rw [this]; rfl)]
    unfold m_NoRoot___init__
    exact kn hp _
end G
namespace G
open PySem L2 TL WM
theorem W_times_ok {l : List Int} {n : Int} {Kf : D_Word → Prop} (h : Ltk 26 l) (hl : l.length ≤ 100) (hne : l ≠ []) (h0 : n ≤ 0) (h1 : n.natAbs * l.length ≤ 500) (hn : n.natAbs ≤ 1000) (k : Kf (mkW (rep n.natAbs (inv l)))) : m_Word_times (mkW l) n Kf := by
  have hp := len_pos hne
  unfold m_Word_times
  refine need_number_ok ?_
  rw [if_neg (by simp only [decide_eq_true_eq]; show ¬ ((l.length : Int) = 0); omega)]
  have e1 : (l.length : Int) * ((n.natAbs : Nat) : Int) = ((n.natAbs * l.length : Nat) : Int) := by rw [Int.natCast_mul, Int.mul_comm]
  have e0 : (mkW l).length = (l.length : Int) := rfl
  refine ⟨.inl ⟨by omega, by omega⟩, need_few_ok (by show (l.length : Int) * ((n.natAbs : Nat) : Int) ≤ 500; rw [e1]; omega) ?_⟩
  dsimp only [mB]
  rw [if_neg (by simp only [decide_eq_true_eq]; omega)]
  refine contrary_of_ok (by show l.length ≤ _; omega) ⟨⟨by omega, by omega, ?_⟩, ?_⟩
  · rw [Int.toNat_natCast]
    show (inv l).length * n.natAbs ≤ _
    rw [inv_len, Nat.mul_comm]
    omega
  · show m_Word___init__ (pyRep (inv l) (n.natAbs : Int)) _
    rw [pyRep_nat]
    refine init_ok (fun x hx => ?_) (by rw [rep_len, inv_len]; exact h1) k
    have : ∀ m, x ∈ rep m (inv l) → x ∈ inv l := by
      intro m
      induction m with
      | zero => intro hx; rw [rep_zero] at hx; cases hx
      | succ m ih => intro hx; rw [rep_succ] at hx; exact (List.mem_append.mp hx).elim id ih
    exact h.inv x (this _ hx)
theorem bool_of {r : Bool} {p : Prop} (h : r = true ↔ p) (hn : ¬ p) : r = false := by
  cases r with
  | false => rfl
  | true => exact absurd (h.mp rfl) hn
theorem bools {r r' : Bool} {p : Prop} (h : r = true ↔ p) (h' : r' = true ↔ p) : r = r' := by
  rw [Bool.eq_iff_iff, h, h']
/-- what is known of the law's list -/
structure Kn (L : List Int) (ws : List (List Int)) (d : List (List Int × List Int)) : Prop where
  ll : LL L
  mem : ∀ w, w ∈ ws ↔ w ≠ [] ∧ w.length ≤ 3 ∧ Rd w ∧ ∀ x ∈ w, x ∈ L
  tab : Tab d (PS ws)
  len : (PS ws).length ≤ 1000000
section
variable {L : List Int} {ws : List (List Int)} {d : List (List Int × List Int)} {a b : List Int}
theorem ltk_of (hL : LL L) (h : ∀ x ∈ a, x ∈ L) : Ltk 26 a := fun x hx => hL.nz x (h x hx)
theorem due (k : Kn L ws d) (ra : Rd a) (rb : Rd b) (ma : ∀ x ∈ a, x ∈ L) (mb : ∀ x ∈ b, x ∈ L) (la : a.length ≤ 12) (lb : b.length ≤ 3) : (a = [] ∨ b = [] ∨ ∃ n, (a, n) ∈ PS ws ∧ (b, n) ∈ PS ws) ↔ Pass a b := by
  by_cases ha : a = []
  · subst ha; exact ⟨fun _ => pass_nil b, fun _ => .inl rfl⟩
  · by_cases hb : b = []
    · subst hb; exact ⟨fun _ => (pass_nil a).sym, fun _ => .inr (.inl rfl)⟩
    · rw [← known_iff k.ll k.mem ⟨ra, ha, fun x hx => (k.ll.nz x (ma x hx)).1⟩ ⟨rb, hb, fun x hx => (k.ll.nz x (mb x hx)).1⟩ la lb ma mb]
      exact ⟨fun h => (h.resolve_left ha).resolve_left hb, fun h => .inr (.inr h)⟩
theorem couple_ok {Kf : Bool → Prop} (k : Kn L ws d) (ra : Rd a) (rb : Rd b) (ma : ∀ x ∈ a, x ∈ L) (mb : ∀ x ∈ b, x ∈ L) (la : a.length ≤ 12) (lb : b.length ≤ 3) (kk : Kf true) : m_l_couple_right d a b Kf := by
  unfold m_l_couple_right
  have ta := ltk_of k.ll ma
  have tb := ltk_of k.ll mb
  refine of_one_ok k.tab k.len fun r hr => init_ok ta (by omega) (init_ok tb (by omega) ?_)
  rw [due k ra rb ma mb la lb] at hr
  dsimp only [mB]
  refine go_past_ok (by omega) fun r1 h1 => ?_
  have e1 : r1 = r := bools h1 hr
  subst e1
  rw [if_neg (by simp)]
  refine go_past_ok (by omega) fun r2 h2 => ?_
  have e2 : r2 = r1 := bools (h2.trans ⟨Pass.sym, Pass.sym⟩) hr
  subst e2
  rw [if_neg (by simp)]
  refine common_root_ok ra rb ta tb (by omega) (by omega) (fun hn q => ?_) (fun hp q _ => ?_)
  · have : r2 = false := bool_of hr hn
    subst this
    exact kk
  · have : r2 = true := hr.mpr hp
    subst this
    exact kk
theorem pair_ok {words : List (List Int)} {t : Jar} {n : Nat} {Kf : Bool → Jar → Prop} (k : Kn L ws d) (hw : words ≠ []) (hwl : words.length ≤ 1000) (hwm : ∀ w ∈ words, w.length ≤ 3 ∧ ∀ x ∈ w, x ∈ L) (ra : Rd a) (rb : Rd b) (ma : ∀ x ∈ a, x ∈ L) (mb : ∀ x ∈ b, x ∈ L) (la : a.length ≤ 12) (lb : b.length ≤ 3)
    (hn : n + 2 < 1048576) (J : JOk n t) (kk : ∀ t', JOk (n + 2) t' → Kf true t') : m_l_pair_right d words a b t Kf := by
  unfold m_l_pair_right
  have ta := ltk_of k.ll ma
  have tb := ltk_of k.ll mb
  refine couple_ok k ra rb ma mb la lb ?_
  rw [if_neg (by simp)]
  refine pick_ok hw (by omega) (by omega) J fun o t1 ho J1 => ?_
  obtain ⟨lo, mo⟩ := hwm o ho
  have to := ltk_of k.ll mo
  refine init_ok to (by omega) (init_ok ta (by omega) (init_ok tb (by omega) ?_))
  refine ⟨by simp, by simp, ?_⟩
  refine mMap_det (fun x => mkW (o ++ x.letters ++ inv o)) (fun x hx K hK => ?_) ?_
  · simp only [List.mem_cons, List.not_mem_nil, or_false] at hx
    have step : ∀ c : List Int, Ltk 26 c → c.length ≤ 12 → K (mkW (o ++ c ++ inv o)) → m_Word_then (mkW o) (mkW c) fun r310 => m_Word_contrary (mkW o) fun r311 => m_Word_then r310 r311 fun r309 => K r309 := fun c tc lc hK =>
      W_then_ok to tc (by omega) (W_contrary_ok to (by omega) (W_then_ok (to.app tc) to.inv (by rw [List.length_append, inv_len]; omega) hK))
    rcases hx with rfl | rfl
    · exact step a ta la hK
    · exact step b tb (by omega) hK
  refine go_past_ok (by omega) fun r hr => ?_
  dsimp only [mB]
  refine ⟨_, rfl, _, rfl, ?_⟩
  refine go_past_ok (by show (o ++ a ++ inv o).length + (o ++ b ++ inv o).length ≤ _; simp only [List.length_append, inv_len]; omega) fun r1 h1 => ?_
  have e1 : r1 = r := bools (h1.trans (pass_conj o a b)) hr
  subst e1
  rw [if_neg (by simp)]
  refine W_contrary_ok tb (by omega) (go_past_ok (by rw [inv_len]; omega) fun r2 h2 => ?_)
  have e2 : r2 = r1 := bools (h2.trans pass_inv_iff) hr
  subst e2
  rw [if_neg (by simp)]
  refine W_contrary_ok ta (by omega) (go_past_ok (by rw [inv_len]; omega) fun r3 h3 => ?_)
  have e3 : r3 = r2 := bools (h3.trans ⟨fun h => (pass_inv_iff.mp h.sym).sym, fun h => (pass_inv h.sym).sym⟩) hr
  subst e3
  rw [if_neg (by simp)]
  have done : Kf true t1 := kk t1 (J1.mono (by omega))
  by_cases hp : Pass a b
  · rw [if_neg (by rw [hr.mpr hp]; simp)]
    refine ⟨by simp, ?_⟩
    by_cases ha : a = []
    · rw [if_pos (decide_eq_true ha), if_pos rfl]
      exact done
    rw [if_neg (by simp [ha])]
    refine ⟨by simp, ?_⟩
    by_cases hb : b = []
    · rw [if_pos (decide_eq_true hb)]
      exact done
    rw [if_neg (by simp [hb])]
    have Ra : Rt a := ⟨ra, ha, fun x hx => (ta x hx).1⟩
    have Rb : Rt b := ⟨rb, hb, fun x hx => (tb x hx).1⟩
    refine common_root_ok ra rb ta tb (by omega) (by omega) (fun hn => absurd hp hn) fun _ q hq => ⟨q, rfl, ?_⟩
    obtain ⟨hq1, _⟩ := hq ha
    refine draw_ok (by omega) (by omega) (by omega) J1 fun x t2 x0 x1 J2 => ?_
    rw [hq1]
    have lr := root_len a
    have tr : Ltk 26 (root a) := ta.sub fun x hx => root_mem hx
    obtain ⟨m, hm, _⟩ := Ra.times
    have pra : Pass (root a) a := by
      have : Pass (rep (m + 1) (root a)) (root a) := pass_rep (pass_self _) _
      have := pass_red.mpr this
      rw [← hm] at this
      exact this.sym
    have prb : Pass (root a) b := by
      obtain ⟨m', hm', _⟩ := Rb.times
      rcases one_root Ra Rb hp with e | e
      · rw [e] at hm'
        have : Pass (rep (m' + 1) (root a)) (root a) := pass_rep (pass_self _) _
        have := pass_red.mpr this
        rw [← hm'] at this
        exact this.sym
      · rw [e] at hm'
        have : Pass (rep (m' + 1) (inv (root a))) (root a) := pass_rep (pass_inv (pass_self (root a))).sym _
        have := pass_red.mpr this
        rw [← hm'] at this
        exact this.sym
    refine go_past_ok (by omega) fun r4 h4 => ?_
    rw [if_neg (by rw [h4.mpr pra]; simp)]
    refine W_times_ok tr (by omega) Ra.root.ne (by omega) ?_ (by omega) ?_
    · have : (-x).natAbs * (root a).length ≤ 5 * 12 := Nat.mul_le_mul (by omega) (by omega)
      omega
    refine go_past_ok ?_ fun r5 h5 => ?_
    · rw [rep_len, inv_len]
      have : (-x).natAbs * (root a).length ≤ 5 * 12 := Nat.mul_le_mul (by omega) (by omega)
      omega
    rw [if_neg (by rw [h5.mpr (pass_rep (pass_inv prb.sym).sym _)]; simp)]
    refine common_root_ok ra Ra.root.rd ta tr (by omega) (by omega) (fun hn => absurd pra.sym hn) fun _ q2 hq2 => ⟨q2, rfl, ?_⟩
    obtain ⟨_, hq3⟩ := hq2 ha
    rw [hq3, tm_self Ra.root, if_neg (by simp)]
    refine common_root_ok rb ra tb ta (by omega) (by omega) (fun hn => absurd hp.sym hn) fun _ q4 hq4 => ⟨q4, rfl, ?_⟩
    obtain ⟨hq5, _⟩ := hq4 hb
    refine W_contrary_ok tr (by omega) ⟨by simp, ?_⟩
    have fin : Kf true t2 := kk t2 (J2.mono (by omega))
    refine ⟨fin, ?_⟩
    have : ([mkW (root a), mkW (inv (root a))].any fun y => eqW y q4.root) = true := by
      rw [hq5]
      simp only [List.any_cons, List.any_nil, eqW_mk, Bool.or_false, Bool.or_eq_true, decide_eq_true_eq]
      rcases one_root Ra Rb hp with e | e
      · exact .inl e.symm
      · exact .inr e.symm
    show Kf ([mkW (root a), mkW (inv (root a))].any fun y => eqW y q4.root) t2
    rw [this]
    exact fin
  · have : r3 = false := bool_of hr hp
    subst this
    rw [if_pos (by rfl), if_pos rfl]
    exact done
end
theorem mMapS_inv {α β T : Type} {f : α → T → (β → T → Prop) → Prop} (P : β → Prop) (J : Nat → T → Prop) : ∀ {xs : List α} {n : Nat} {t : T} {K : List β → T → Prop}, J n t → (∀ m x t (K : β → T → Prop), m < n + xs.length → J m t → (∀ y t', P y → J (m + 1) t' → K y t') → f x t K) → (∀ ys t', ys.length = xs.length → (∀ y ∈ ys, P y) → J (n + xs.length) t' → K ys t') → mMapS xs f t K
  | [], n, t, K, h, _, hk => hk [] t rfl (fun _ h => nomatch h) h
  | x :: xs, n, t, K, h, hs, hk => hs n x t _ (by simp) h fun y t' hy hj => mMapS_inv P J hj (fun m x t K hm => hs m x t K (by simp only [List.length_cons]; omega)) fun ys t2 e hys hj2 => hk (y :: ys) t2 (by simp [e]) (fun z hz => by
      rcases List.mem_cons.mp hz with rfl | hz
      · exact hy
      · exact hys z hz) (by simp only [List.length_cons]; rw [show n + (xs.length + 1) = n + 1 + xs.length from by omega]; exact hj2)
theorem law_true {ns : List Int} (hl : ns.length ≤ 63) : m_law ns (fun r => r = true) := by
  unfold m_law m_l_jar
  have hcut : (pyCut ns none (some (58 : Int))).length ≤ 1000 := by
    rw [pyCut_take (by omega), List.length_take]; omega
  refine ⟨by omega, mMap_det (fun x => x) (fun _ _ _ h => h) ?_⟩
  refine ⟨by omega, by omega, by rw [rangeL_len]; decide, ?_⟩
  have hr2 : (rangeL 0 (2 : Int)).length = 2 := by rw [rangeL_len]; rfl
  refine mMapS_inv (fun y : Int => 1 ≤ y ∧ y ≤ 26) (fun m (s : Jar × List Int) => JOk m s.1 ∧ s.2.length + m = 26 ∧ ∀ x ∈ s.2, 1 ≤ x ∧ x ≤ 26) (n := 0) ⟨⟨Int.le_refl _, Int.le_refl _⟩, by rw [rangeL_len]; decide, fun x hx => by have := rangeL_mem.mp hx; omega⟩ (fun m x s K hm ⟨J, h1, h2⟩ hK => ?_) (fun ys s hys hy ⟨J, h1, h2⟩ => ?_)
  · rw [hr2] at hm
    refine draw_ok (by omega) (by omega) (by omega) J fun r t' r0 r1 J' => ?_
    have hb : r.toNat < s.2.length := by omega
    refine ⟨s.2[r.toNat], ⟨r0, r1, by omega, List.getElem?_eq_getElem hb⟩, hK _ _ (h2 _ (List.getElem_mem hb)) ⟨J', ?_, fun x hx => h2 x (List.mem_of_mem_eraseIdx hx)⟩⟩
    show (s.2.eraseIdx r.toNat).length + (m + 1) = 26
    rw [List.length_eraseIdx_of_lt hb]
    omega
  rw [hr2] at hys J
  refine draw_ok (by omega) (by omega) (by omega) J fun w t1 w0 w1 J1 => ?_
  refine words_ok hys ?_
  generalize hL : ys ++ ys.map (fun x => -x) = L
  have ll : LL L := ⟨fun x hx => by
    rw [← hL] at hx
    rcases List.mem_append.mp hx with hx | hx
    · have := hy x hx; omega
    · obtain ⟨z, hz, rfl⟩ := List.mem_map.mp hx
      have := hy z hz
      omega, fun x hx => by
    rw [← hL] at hx ⊢
    rcases List.mem_append.mp hx with hx | hx
    · exact List.mem_append_right _ (List.mem_map.mpr ⟨x, hx, rfl⟩)
    · obtain ⟨z, hz, rfl⟩ := List.mem_map.mp hx
      rw [Int.neg_neg]
      exact List.mem_append_left _ hz⟩
  have hL4 : L.length ≤ 4 := by rw [← hL, List.length_append, List.length_map]; omega
  obtain ⟨rest, hrest, hne⟩ := levs_head L 3
  have hlen := levs_len hL4 (n := 3) (by omega)
  have hd1 : pyCut (levs L 3) (some (1 : Int)) none = rest := by rw [pyCut_drop (by omega), hrest]; rfl
  have hmem : ∀ u, u ∈ levs L 3 → u.length ≤ 3 ∧ Rd u ∧ ∀ x ∈ u, x ∈ L := fun u hu => levs_mem.mp hu
  have hws : ∀ u, u ∈ rest ↔ u ≠ [] ∧ u.length ≤ 3 ∧ Rd u ∧ ∀ x ∈ u, x ∈ L := fun u => by
    constructor
    · intro hu
      exact ⟨hne u hu, hmem u (by rw [hrest]; exact List.mem_cons_of_mem _ hu)⟩
    · rintro ⟨h1, h2⟩
      have := levs_mem.mpr h2
      rw [hrest] at this
      exact (List.mem_cons.mp this).resolve_left h1
  have hrl : rest.length ≤ 256 := by rw [hrest, List.length_cons] at hlen; omega
  rw [hd1]
  refine powers_ok (fun u hu => ((hws u).mp hu).2.1) (by omega) fun d td => ?_
  have hps : (PS rest).length ≤ 1000000 := by
    have := flat_len (f := fun p : Int × List Int => pts p.1 p.2 12 ++ pts p.1 (inv p.2) 12) (n := 24) (l := enumL rest) fun p _ => by rw [List.length_append, pts_len, pts_len]; exact Nat.le_refl _
    have h2 : (enumL rest).length ≤ 256 := by unfold enumL; rw [List.length_zip, rangeL_len]; omega
    unfold PS
    omega
  have kn : Kn L rest d := ⟨ll, hws, td, hps⟩
  have h17 : pyCut (levs L 3) none (some (17 : Int)) = (levs L 3).take 17 := by rw [pyCut_take (by omega)]; rfl
  rw [h17]
  have main : ∀ some_ : List (List Int), (∀ u ∈ some_, u ∈ levs L 3) → (mFor some_ (fun (l_one87 : (List Int)) (s348 : Jar × (List Int)) Kn88 => mFor some_ (fun (l_other89 : (List Int)) (s254 : Jar × (List Int)) Kn90 => m_l_couple_right d l_one87 l_other89 fun r363 => (if (!r363) = true then (fun r => r = true) false else
  Kn90 (s254.1, s254.2))) (s348.1, s348.2) (fun (s255 : Jar × (List Int)) =>
  Kn88 (s255.1, s255.2))) (t1, s.2) (fun (s349 : Jar × (List Int)) =>
  ((-(2 ^ 62) ≤ (5 : Int) ∧ (5 : Int) < 2 ^ 62) ∧ mFor (rangeL 0 (5 : Int)) (fun (l_turn256 : Int) (s346 : Jar × (List Int)) Kn257 => m_l_pick rest s346.1 fun r364 t365 => m_l_draw (4 : Int) t365 fun r367 t368 => ((-(2 ^ 63) ≤ ((1 : Int) + r367) ∧ ((1 : Int) + r367) < 2 ^ 63 ∧ r364.length * ((1 : Int) + r367).toNat ≤ 1000000) ∧ m_l_short (pyRep r364 ((1 : Int) + r367)) fun r366 => ((-(2 ^ 62) ≤ (4 : Int) ∧ (4 : Int) < 2 ^ 62) ∧ ((rangeL 0 (4 : Int)).length ≤ 1000000 ∧ mMapS (rangeL 0 (4 : Int)) (fun (x263 : Int) (t266 : Jar) K265 => m_l_pick (levs L 3) t266 fun r371 t372 => K265 r371 t372) t368 fun ys369 t370 => (((levs L 3).take 17).length + ys369.length ≤ 1000000 ∧ mFor (((levs L 3).take 17) ++ ys369) (fun (l_other267 : (List Int)) (s344 : Jar × (List Int)) Kn268 => m_l_pair_right d (levs L 3) r366 l_other267 s344.1 fun r373 t374 => (if (!r373) = true then (fun r => r = true) false else
  Kn268 (t374, s344.2))) (t370, s346.2) (fun (s345 : Jar × (List Int)) =>
  Kn257 (s345.1, s345.2))))))) (s349.1, s349.2) (fun (s347 : Jar × (List Int)) => (fun r => r = true) true)))) := by
    intro some_ hsome
    refine mFor_inv (fun r s => (∀ u ∈ r, u ∈ levs L 3) ∧ JOk 3 s.1) ⟨hsome, J1⟩ (fun u r s K ⟨g1, g2⟩ hK => ?_) (fun s ⟨_, g2⟩ => ?_)
    · refine mFor_inv (fun r s => (∀ u ∈ r, u ∈ levs L 3) ∧ JOk 3 s.1) ⟨hsome, g2⟩ (fun v r' s' K' ⟨g3, g4⟩ hK' => ?_) (fun s' ⟨_, g4⟩ => hK _ ⟨fun z hz => g1 z (List.mem_cons_of_mem _ hz), g4⟩)
      obtain ⟨u1, u2, u3⟩ := hmem u (g1 u List.mem_cons_self)
      obtain ⟨v1, v2, v3⟩ := hmem v (g3 v List.mem_cons_self)
      refine couple_ok kn u2 v2 u3 v3 (by omega) v1 ?_
      rw [if_neg (by simp)]
      exact hK' _ ⟨fun z hz => g3 z (List.mem_cons_of_mem _ hz), g4⟩
    · refine ⟨by omega, ?_⟩
      have hr5 : (rangeL 0 (5 : Int)).length = 5 := by rw [rangeL_len]; rfl
      have hr4 : (rangeL 0 (4 : Int)).length = 4 := by rw [rangeL_len]; rfl
      refine mFor_n (fun n s => JOk (3 + 100 * n) s.1) g2 (fun n x s K hn _ g hK => ?_) (fun s g => rfl)
      rw [hr5] at hn
      have hr0 : rest ≠ [] := by
        intro z
        have hyne : ys ≠ [] := fun z => by rw [z] at hys; cases hys
        have : [ys.head hyne] ∈ rest := (hws _).mpr ⟨by simp, by simp, trivial, fun x hx => by
          simp at hx
          subst hx
          rw [← hL]
          exact List.mem_append_left _ (List.head_mem hyne)⟩
        rw [z] at this
        cases this
      refine pick_ok hr0 (by omega) (by omega) g fun p t2 hp J2 => ?_
      obtain ⟨p0, p1, p2, p3⟩ := (hws p).mp hp
      refine draw_ok (by omega) (by omega) (by omega) J2 fun q t3 q0 q1 J3 => ?_
      have hq : ((1 : Int) + q) = (((1 + q).toNat : Nat) : Int) := by omega
      have hm : p.length * (1 + q).toNat ≤ 3 * 4 := Nat.mul_le_mul p1 (by omega)
      refine ⟨⟨by omega, by omega, by omega⟩, ?_⟩
      rw [hq, pyRep_nat]
      have hrl2 : (rep (1 + q).toNat p).length ≤ 12 := by rw [rep_len, Nat.mul_comm]; omega
      refine l_short_ok (by omega) ⟨by omega, by omega, ?_⟩
      have hsl := red_len (rep (1 + q).toNat p)
      have hsm : ∀ x ∈ red (rep (1 + q).toNat p), x ∈ L := fun x hx => by
        have : ∀ m, x ∈ rep m p → x ∈ p := by
          intro m
          induction m with
          | zero => intro hx; rw [rep_zero] at hx; cases hx
          | succ m ih => intro hx; rw [rep_succ] at hx; exact (List.mem_append.mp hx).elim id ih
        exact p3 x (this _ (red_mem hx))
      have hl0 : levs L 3 ≠ [] := by rw [hrest]; simp
      refine mMapS_inv (fun y : List Int => y ∈ levs L 3) (fun m t => JOk m t) (n := 3 + 100 * n + 2) J3 (fun m x t K2 hm2 J4 hK2 => pick_ok hl0 (by omega) (by omega) J4 fun y t' hy J5 => hK2 y t' hy J5) (fun ys2 t4 hl2 hy2 J4 => ?_)
      rw [hr4] at hl2 J4
      have h17l : ((levs L 3).take 17).length ≤ 17 := by rw [List.length_take]; omega
      refine ⟨by omega, ?_⟩
      refine mFor_n (fun m s => JOk (3 + 100 * n + 6 + 2 * m) s.1) (J4.mono (by omega)) (fun m v s' K' hm' hv g4 hK' => ?_) (fun s' g4 => hK _ ?_)
      · have hvm : v ∈ levs L 3 := by
          rcases List.mem_append.mp hv with h | h
          · exact List.mem_of_mem_take h
          · exact hy2 v h
        obtain ⟨v1, v2, v3⟩ := hmem v hvm
        rw [List.length_append] at hm'
        refine pair_ok kn hl0 (by omega) (fun u hu => ⟨(hmem u hu).1, (hmem u hu).2.2⟩) (rd_red _) v2 hsm v3 (by omega) v1 (by omega) g4 fun t' J' => ?_
        rw [if_neg (by simp)]
        exact hK' _ (J'.mono (by omega))
      · rw [List.length_append] at g4
        exact g4.mono (by omega)
  dsimp only [mB]
  split
  · exact main (levs L 3) fun u hu => hu
  · exact main ((levs L 3).take 17) fun u hu => List.mem_of_mem_take hu
end G
namespace G
open PySem L2 TL WM
theorem mk_T {P : Program} {K : PySem.W.Frag} {h : Heap} {mg : Str → Option Value} (X : K.In h) (G : h.Ns mainGlobals mg)
    {C_Word C_NoRoot C_Root f_l_jar f_l_draw f_l_words f_l_contrary f_l_short f_l_powers f_l_are_of_one f_is_listed f_is_integer f_is_within f_is_letter f_are_letters f_need_few f_are_short f_rounded_of f_Word___init__ f_need_word f_shortened_of f_do_pass f_go_past f_fixed f_Paper___init__ f_NoRoot___init__ ca_NoRoot___init__ cc_NoRoot___init__ f_Root___init__ ca_Root___init__ cc_Root___init__ f_least_piece f_contrary_of f_root_letters f_times_in f_common_root f_Paper___bool__ f_Denial___bool__ f_l_couple_right f_l_pick f_Word_then f_Word_contrary f_need_number f_Word_times f_Word___eq__ f_l_pair_right f_law : Addr} {oc_l_jar kV_l_jar dc_l_jar pm_l_jar cd_l_jar ct_l_jar oc_l_draw kV_l_draw dc_l_draw pm_l_draw cd_l_draw ct_l_draw oc_l_words kV_l_words dc_l_words pm_l_words cd_l_words ct_l_words oc_l_contrary kV_l_contrary dc_l_contrary pm_l_contrary cd_l_contrary ct_l_contrary oc_l_short kV_l_short dc_l_short pm_l_short cd_l_short ct_l_short oc_l_powers kV_l_powers dc_l_powers pm_l_powers cd_l_powers ct_l_powers oc_l_are_of_one kV_l_are_of_one dc_l_are_of_one pm_l_are_of_one cd_l_are_of_one ct_l_are_of_one oc_is_listed kV_is_listed dc_is_listed pm_is_listed cd_is_listed ct_is_listed oc_is_integer kV_is_integer dc_is_integer pm_is_integer cd_is_integer ct_is_integer oc_is_within kV_is_within dc_is_within pm_is_within cd_is_within ct_is_within oc_is_letter kV_is_letter dc_is_letter pm_is_letter cd_is_letter ct_is_letter oc_are_letters kV_are_letters dc_are_letters pm_are_letters cd_are_letters ct_are_letters oc_need_few kV_need_few dc_need_few pm_need_few cd_need_few ct_need_few oc_are_short kV_are_short dc_are_short pm_are_short cd_are_short ct_are_short oc_rounded_of kV_rounded_of dc_rounded_of pm_rounded_of cd_rounded_of ct_rounded_of oc_Word___init__ kV_Word___init__ dc_Word___init__ pm_Word___init__ cd_Word___init__ ct_Word___init__ oc_need_word kV_need_word dc_need_word pm_need_word cd_need_word ct_need_word oc_shortened_of kV_shortened_of dc_shortened_of pm_shortened_of cd_shortened_of ct_shortened_of oc_do_pass kV_do_pass dc_do_pass pm_do_pass cd_do_pass ct_do_pass oc_go_past kV_go_past dc_go_past pm_go_past cd_go_past ct_go_past oc_fixed kV_fixed dc_fixed pm_fixed cd_fixed ct_fixed oc_Paper___init__ kV_Paper___init__ dc_Paper___init__ pm_Paper___init__ cd_Paper___init__ ct_Paper___init__ oc_NoRoot___init__ kV_NoRoot___init__ dc_NoRoot___init__ pm_NoRoot___init__ ct_NoRoot___init__ oc2_NoRoot___init__ oc3_NoRoot___init__ oc_Root___init__ kV_Root___init__ dc_Root___init__ pm_Root___init__ ct_Root___init__ oc2_Root___init__ oc3_Root___init__ oc_least_piece kV_least_piece dc_least_piece pm_least_piece cd_least_piece ct_least_piece oc_contrary_of kV_contrary_of dc_contrary_of pm_contrary_of cd_contrary_of ct_contrary_of oc_root_letters kV_root_letters dc_root_letters pm_root_letters cd_root_letters ct_root_letters oc_times_in kV_times_in dc_times_in pm_times_in cd_times_in ct_times_in oc_common_root kV_common_root dc_common_root pm_common_root cd_common_root ct_common_root oc_Paper___bool__ kV_Paper___bool__ dc_Paper___bool__ pm_Paper___bool__ cd_Paper___bool__ ct_Paper___bool__ oc_Denial___bool__ kV_Denial___bool__ dc_Denial___bool__ pm_Denial___bool__ cd_Denial___bool__ ct_Denial___bool__ oc_l_couple_right kV_l_couple_right dc_l_couple_right pm_l_couple_right cd_l_couple_right ct_l_couple_right oc_l_pick kV_l_pick dc_l_pick pm_l_pick cd_l_pick ct_l_pick oc_Word_then kV_Word_then dc_Word_then pm_Word_then cd_Word_then ct_Word_then oc_Word_contrary kV_Word_contrary dc_Word_contrary pm_Word_contrary cd_Word_contrary ct_Word_contrary oc_need_number kV_need_number dc_need_number pm_need_number cd_need_number ct_need_number oc_Word_times kV_Word_times dc_Word_times pm_Word_times cd_Word_times ct_Word_times oc_Word___eq__ kV_Word___eq__ dc_Word___eq__ pm_Word___eq__ cd_Word___eq__ ct_Word___eq__ oc_l_pair_right kV_l_pair_right dc_l_pair_right pm_l_pair_right cd_l_pair_right ct_l_pair_right oc_law kV_law dc_law pm_law cd_law ct_law : Value} {od_l_jar an_l_jar od_l_draw an_l_draw od_l_words an_l_words od_l_contrary an_l_contrary od_l_short an_l_short od_l_powers an_l_powers od_l_are_of_one an_l_are_of_one od_is_listed an_is_listed od_is_integer an_is_integer od_is_within an_is_within od_is_letter an_is_letter od_are_letters an_are_letters od_need_few an_need_few od_are_short an_are_short od_rounded_of an_rounded_of od_Word___init__ an_Word___init__ od_need_word an_need_word od_shortened_of an_shortened_of od_do_pass an_do_pass od_go_past an_go_past od_fixed an_fixed od_Paper___init__ an_Paper___init__ od_NoRoot___init__ an_NoRoot___init__ od2_NoRoot___init__ od3_NoRoot___init__ od_Root___init__ an_Root___init__ od2_Root___init__ od3_Root___init__ od_least_piece an_least_piece od_contrary_of an_contrary_of od_root_letters an_root_letters od_times_in an_times_in od_common_root an_common_root od_Paper___bool__ an_Paper___bool__ od_Denial___bool__ an_Denial___bool__ od_l_couple_right an_l_couple_right od_l_pick an_l_pick od_Word_then an_Word_then od_Word_contrary an_Word_contrary od_need_number an_need_number od_Word_times an_Word_times od_Word___eq__ an_Word___eq__ od_l_pair_right an_l_pair_right od_law an_law : Option Addr} {sl_l_jar sl_l_draw sl_l_words sl_l_contrary sl_l_short sl_l_powers sl_l_are_of_one sl_is_listed sl_is_integer sl_is_within sl_is_letter sl_are_letters sl_need_few sl_are_short sl_rounded_of sl_Word___init__ sl_need_word sl_shortened_of sl_do_pass sl_go_past sl_fixed sl_Paper___init__ sl_NoRoot___init__ sl2_NoRoot___init__ sl3_NoRoot___init__ sl_Root___init__ sl2_Root___init__ sl3_Root___init__ sl_least_piece sl_contrary_of sl_root_letters sl_times_in sl_common_root sl_Paper___bool__ sl_Denial___bool__ sl_l_couple_right sl_l_pick sl_Word_then sl_Word_contrary sl_need_number sl_Word_times sl_Word___eq__ sl_l_pair_right sl_law : Array (Option Value)} {vs_NoRoot___init__ vs_Root___init__ : Array Value} {pfn : Str} {tf_NoRoot___init__ tf_Root___init__ t_LAST_KIND t_MOST_LETTERS : Tok}
    (h0 : PySem.W.nsIn K mainGlobals "Word" = some (some (.ref C_Word)))
    (h1 : PySem.W.nsIn K mainGlobals "NoRoot" = some (some (.ref C_NoRoot)))
    (h2 : PySem.W.nsIn K mainGlobals "Root" = some (some (.ref C_Root)))
    (h3 : PySem.W.nsIn K mainGlobals "_law_jar" = some (some (.ref f_l_jar)))
    (h4 : K.lookup f_l_jar = some ⟨oc_l_jar, od_l_jar, .func (PySem.W.fnOf "_law_jar" "_law_jar" (defArgs s_l_jar) (defBody s_l_jar) (defScope s_l_jar) .none kV_l_jar dc_l_jar pm_l_jar an_l_jar cd_l_jar ct_l_jar), sl_l_jar⟩)
    (h5 : PySem.W.codeIn K cd_l_jar "_law_jar" = true)
    (h6 : PySem.W.keepIn K (.ref f_l_jar) = true)
    (h7 : PySem.W.nsIn K mainGlobals "_law_draw" = some (some (.ref f_l_draw)))
    (h8 : K.lookup f_l_draw = some ⟨oc_l_draw, od_l_draw, .func (PySem.W.fnOf "_law_draw" "_law_draw" (defArgs s_l_draw) (defBody s_l_draw) (defScope s_l_draw) .none kV_l_draw dc_l_draw pm_l_draw an_l_draw cd_l_draw ct_l_draw), sl_l_draw⟩)
    (h9 : PySem.W.codeIn K cd_l_draw "_law_draw" = true)
    (h10 : PySem.W.keepIn K (.ref f_l_draw) = true)
    (h11 : PySem.W.nsIn K mainGlobals "_law_words" = some (some (.ref f_l_words)))
    (h12 : K.lookup f_l_words = some ⟨oc_l_words, od_l_words, .func (PySem.W.fnOf "_law_words" "_law_words" (defArgs s_l_words) (defBody s_l_words) (defScope s_l_words) .none kV_l_words dc_l_words pm_l_words an_l_words cd_l_words ct_l_words), sl_l_words⟩)
    (h13 : PySem.W.codeIn K cd_l_words "_law_words" = true)
    (h14 : PySem.W.keepIn K (.ref f_l_words) = true)
    (h15 : PySem.W.nsIn K mainGlobals "_law_contrary" = some (some (.ref f_l_contrary)))
    (h16 : K.lookup f_l_contrary = some ⟨oc_l_contrary, od_l_contrary, .func (PySem.W.fnOf "_law_contrary" "_law_contrary" (defArgs s_l_contrary) (defBody s_l_contrary) (defScope s_l_contrary) .none kV_l_contrary dc_l_contrary pm_l_contrary an_l_contrary cd_l_contrary ct_l_contrary), sl_l_contrary⟩)
    (h17 : PySem.W.codeIn K cd_l_contrary "_law_contrary" = true)
    (h18 : PySem.W.keepIn K (.ref f_l_contrary) = true)
    (h19 : PySem.W.nsIn K mainGlobals "_law_short" = some (some (.ref f_l_short)))
    (h20 : K.lookup f_l_short = some ⟨oc_l_short, od_l_short, .func (PySem.W.fnOf "_law_short" "_law_short" (defArgs s_l_short) (defBody s_l_short) (defScope s_l_short) .none kV_l_short dc_l_short pm_l_short an_l_short cd_l_short ct_l_short), sl_l_short⟩)
    (h21 : PySem.W.codeIn K cd_l_short "_law_short" = true)
    (h22 : PySem.W.keepIn K (.ref f_l_short) = true)
    (h23 : PySem.W.nsIn K mainGlobals "_law_powers" = some (some (.ref f_l_powers)))
    (h24 : K.lookup f_l_powers = some ⟨oc_l_powers, od_l_powers, .func (PySem.W.fnOf "_law_powers" "_law_powers" (defArgs s_l_powers) (defBody s_l_powers) (defScope s_l_powers) .none kV_l_powers dc_l_powers pm_l_powers an_l_powers cd_l_powers ct_l_powers), sl_l_powers⟩)
    (h25 : PySem.W.codeIn K cd_l_powers "_law_powers" = true)
    (h26 : PySem.W.keepIn K (.ref f_l_powers) = true)
    (h27 : PySem.W.nsIn K mainGlobals "_law_are_of_one" = some (some (.ref f_l_are_of_one)))
    (h28 : K.lookup f_l_are_of_one = some ⟨oc_l_are_of_one, od_l_are_of_one, .func (PySem.W.fnOf "_law_are_of_one" "_law_are_of_one" (defArgs s_l_are_of_one) (defBody s_l_are_of_one) (defScope s_l_are_of_one) .none kV_l_are_of_one dc_l_are_of_one pm_l_are_of_one an_l_are_of_one cd_l_are_of_one ct_l_are_of_one), sl_l_are_of_one⟩)
    (h29 : PySem.W.codeIn K cd_l_are_of_one "_law_are_of_one" = true)
    (h30 : PySem.W.keepIn K (.ref f_l_are_of_one) = true)
    (h31 : PySem.W.nsIn K mainGlobals "is_listed" = some (some (.ref f_is_listed)))
    (h32 : K.lookup f_is_listed = some ⟨oc_is_listed, od_is_listed, .func (PySem.W.fnOf "is_listed" "is_listed" (defArgs s_is_listed) (defBody s_is_listed) (defScope s_is_listed) .none kV_is_listed dc_is_listed pm_is_listed an_is_listed cd_is_listed ct_is_listed), sl_is_listed⟩)
    (h33 : PySem.W.codeIn K cd_is_listed "is_listed" = true)
    (h34 : PySem.W.keepIn K (.ref f_is_listed) = true)
    (h35 : PySem.W.nsIn K mainGlobals "is_integer" = some (some (.ref f_is_integer)))
    (h36 : K.lookup f_is_integer = some ⟨oc_is_integer, od_is_integer, .func (PySem.W.fnOf "is_integer" "is_integer" (defArgs s_is_integer) (defBody s_is_integer) (defScope s_is_integer) .none kV_is_integer dc_is_integer pm_is_integer an_is_integer cd_is_integer ct_is_integer), sl_is_integer⟩)
    (h37 : PySem.W.codeIn K cd_is_integer "is_integer" = true)
    (h38 : PySem.W.keepIn K (.ref f_is_integer) = true)
    (h39 : PySem.W.nsIn K mainGlobals "is_within" = some (some (.ref f_is_within)))
    (h40 : K.lookup f_is_within = some ⟨oc_is_within, od_is_within, .func (PySem.W.fnOf "is_within" "is_within" (defArgs s_is_within) (defBody s_is_within) (defScope s_is_within) .none kV_is_within dc_is_within pm_is_within an_is_within cd_is_within ct_is_within), sl_is_within⟩)
    (h41 : PySem.W.codeIn K cd_is_within "is_within" = true)
    (h42 : PySem.W.keepIn K (.ref f_is_within) = true)
    (h43 : PySem.W.nsIn K mainGlobals "is_letter" = some (some (.ref f_is_letter)))
    (h44 : K.lookup f_is_letter = some ⟨oc_is_letter, od_is_letter, .func (PySem.W.fnOf "is_letter" "is_letter" (defArgs s_is_letter) (defBody s_is_letter) (defScope s_is_letter) .none kV_is_letter dc_is_letter pm_is_letter an_is_letter cd_is_letter ct_is_letter), sl_is_letter⟩)
    (h45 : PySem.W.codeIn K cd_is_letter "is_letter" = true)
    (h46 : PySem.W.keepIn K (.ref f_is_letter) = true)
    (h47 : PySem.W.nsIn K mainGlobals "are_letters" = some (some (.ref f_are_letters)))
    (h48 : K.lookup f_are_letters = some ⟨oc_are_letters, od_are_letters, .func (PySem.W.fnOf "are_letters" "are_letters" (defArgs s_are_letters) (defBody s_are_letters) (defScope s_are_letters) .none kV_are_letters dc_are_letters pm_are_letters an_are_letters cd_are_letters ct_are_letters), sl_are_letters⟩)
    (h49 : PySem.W.codeIn K cd_are_letters "are_letters" = true)
    (h50 : PySem.W.keepIn K (.ref f_are_letters) = true)
    (h51 : PySem.W.nsIn K mainGlobals "need_few" = some (some (.ref f_need_few)))
    (h52 : K.lookup f_need_few = some ⟨oc_need_few, od_need_few, .func (PySem.W.fnOf "need_few" "need_few" (defArgs s_need_few) (defBody s_need_few) (defScope s_need_few) .none kV_need_few dc_need_few pm_need_few an_need_few cd_need_few ct_need_few), sl_need_few⟩)
    (h53 : PySem.W.codeIn K cd_need_few "need_few" = true)
    (h54 : PySem.W.keepIn K (.ref f_need_few) = true)
    (h55 : PySem.W.nsIn K mainGlobals "are_short" = some (some (.ref f_are_short)))
    (h56 : K.lookup f_are_short = some ⟨oc_are_short, od_are_short, .func (PySem.W.fnOf "are_short" "are_short" (defArgs s_are_short) (defBody s_are_short) (defScope s_are_short) .none kV_are_short dc_are_short pm_are_short an_are_short cd_are_short ct_are_short), sl_are_short⟩)
    (h57 : PySem.W.codeIn K cd_are_short "are_short" = true)
    (h58 : PySem.W.keepIn K (.ref f_are_short) = true)
    (h59 : PySem.W.nsIn K mainGlobals "rounded_of" = some (some (.ref f_rounded_of)))
    (h60 : K.lookup f_rounded_of = some ⟨oc_rounded_of, od_rounded_of, .func (PySem.W.fnOf "rounded_of" "rounded_of" (defArgs s_rounded_of) (defBody s_rounded_of) (defScope s_rounded_of) .none kV_rounded_of dc_rounded_of pm_rounded_of an_rounded_of cd_rounded_of ct_rounded_of), sl_rounded_of⟩)
    (h61 : PySem.W.codeIn K cd_rounded_of "rounded_of" = true)
    (h62 : PySem.W.keepIn K (.ref f_rounded_of) = true)
    (h63 : PySem.W.findIn K (.ref C_Word) "__init__" = some (some (.ref f_Word___init__)))
    (h64 : PySem.W.isFn K (.ref f_Word___init__) = true)
    (h65 : K.lookup f_Word___init__ = some ⟨oc_Word___init__, od_Word___init__, .func (PySem.W.fnOf "__init__" "Word.__init__" (defArgs s_Word___init__) (defBody s_Word___init__) (defScope s_Word___init__) .none kV_Word___init__ dc_Word___init__ pm_Word___init__ an_Word___init__ cd_Word___init__ ct_Word___init__), sl_Word___init__⟩)
    (h66 : PySem.W.codeIn K cd_Word___init__ "Word.__init__" = true)
    (h67 : PySem.W.keepIn K (.ref f_Word___init__) = true)
    (h68 : PySem.W.nsIn K mainGlobals "need_word" = some (some (.ref f_need_word)))
    (h69 : K.lookup f_need_word = some ⟨oc_need_word, od_need_word, .func (PySem.W.fnOf "need_word" "need_word" (defArgs s_need_word) (defBody s_need_word) (defScope s_need_word) .none kV_need_word dc_need_word pm_need_word an_need_word cd_need_word ct_need_word), sl_need_word⟩)
    (h70 : PySem.W.codeIn K cd_need_word "need_word" = true)
    (h71 : PySem.W.keepIn K (.ref f_need_word) = true)
    (h72 : PySem.W.nsIn K mainGlobals "shortened_of" = some (some (.ref f_shortened_of)))
    (h73 : K.lookup f_shortened_of = some ⟨oc_shortened_of, od_shortened_of, .func (PySem.W.fnOf "shortened_of" "shortened_of" (defArgs s_shortened_of) (defBody s_shortened_of) (defScope s_shortened_of) .none kV_shortened_of dc_shortened_of pm_shortened_of an_shortened_of cd_shortened_of ct_shortened_of), sl_shortened_of⟩)
    (h74 : PySem.W.codeIn K cd_shortened_of "shortened_of" = true)
    (h75 : PySem.W.keepIn K (.ref f_shortened_of) = true)
    (h76 : PySem.W.nsIn K mainGlobals "do_pass" = some (some (.ref f_do_pass)))
    (h77 : K.lookup f_do_pass = some ⟨oc_do_pass, od_do_pass, .func (PySem.W.fnOf "do_pass" "do_pass" (defArgs s_do_pass) (defBody s_do_pass) (defScope s_do_pass) .none kV_do_pass dc_do_pass pm_do_pass an_do_pass cd_do_pass ct_do_pass), sl_do_pass⟩)
    (h78 : PySem.W.codeIn K cd_do_pass "do_pass" = true)
    (h79 : PySem.W.keepIn K (.ref f_do_pass) = true)
    (h80 : PySem.W.nsIn K mainGlobals "go_past" = some (some (.ref f_go_past)))
    (h81 : K.lookup f_go_past = some ⟨oc_go_past, od_go_past, .func (PySem.W.fnOf "go_past" "go_past" (defArgs s_go_past) (defBody s_go_past) (defScope s_go_past) .none kV_go_past dc_go_past pm_go_past an_go_past cd_go_past ct_go_past), sl_go_past⟩)
    (h82 : PySem.W.codeIn K cd_go_past "go_past" = true)
    (h83 : PySem.W.keepIn K (.ref f_go_past) = true)
    (h84 : PySem.W.nsIn K mainGlobals "fixed" = some (some (.ref f_fixed)))
    (h85 : K.lookup f_fixed = some ⟨oc_fixed, od_fixed, .func (PySem.W.fnOf "fixed" "fixed" (defArgs s_fixed) (defBody s_fixed) (defScope s_fixed) .none kV_fixed dc_fixed pm_fixed an_fixed cd_fixed ct_fixed), sl_fixed⟩)
    (h86 : PySem.W.codeIn K cd_fixed "fixed" = true)
    (h87 : PySem.W.keepIn K (.ref f_fixed) = true)
    (h88 : PySem.W.ks_superIn K C_NoRoot C_NoRoot "__init__" = some (some (.ref f_Paper___init__)))
    (h89 : PySem.W.isFn K (.ref f_Paper___init__) = true)
    (h90 : K.lookup f_Paper___init__ = some ⟨oc_Paper___init__, od_Paper___init__, .func (PySem.W.fnOf "__init__" "Paper.__init__" (defArgs s_Paper___init__) (defBody s_Paper___init__) (defScope s_Paper___init__) .none kV_Paper___init__ dc_Paper___init__ pm_Paper___init__ an_Paper___init__ cd_Paper___init__ ct_Paper___init__), sl_Paper___init__⟩)
    (h91 : PySem.W.codeIn K cd_Paper___init__ "Paper.__init__" = true)
    (h92 : PySem.W.keepIn K (.ref f_Paper___init__) = true)
    (h93 : PySem.W.findIn K (.ref C_NoRoot) "__init__" = some (some (.ref f_NoRoot___init__)))
    (h94 : PySem.W.isFn K (.ref f_NoRoot___init__) = true)
    (h95 : K.lookup f_NoRoot___init__ = some ⟨oc_NoRoot___init__, od_NoRoot___init__, .func (PySem.W.ksFn "__init__" "NoRoot.__init__" (defArgs s_NoRoot___init__) (defBody s_NoRoot___init__) (defScope s_NoRoot___init__) .none kV_NoRoot___init__ dc_NoRoot___init__ pm_NoRoot___init__ an_NoRoot___init__ (.ref ca_NoRoot___init__) ct_NoRoot___init__ cc_NoRoot___init__), sl_NoRoot___init__⟩)
    (h96 : PySem.W.codeIn K (.ref ca_NoRoot___init__) "NoRoot.__init__" = true)
    (h97 : K.lookup ca_NoRoot___init__ = some ⟨oc2_NoRoot___init__, od2_NoRoot___init__, .fields vs_NoRoot___init__, sl2_NoRoot___init__⟩)
    (h98 : vs_NoRoot___init__[2]? = some (.str pfn tf_NoRoot___init__))
    (h99 : K.lookup cc_NoRoot___init__ = some ⟨oc3_NoRoot___init__, od3_NoRoot___init__, .cell (some (.ref C_NoRoot)), sl3_NoRoot___init__⟩)
    (h100 : PySem.W.findIn K (.ref C_Root) "__init__" = some (some (.ref f_Root___init__)))
    (h101 : PySem.W.isFn K (.ref f_Root___init__) = true)
    (h102 : K.lookup f_Root___init__ = some ⟨oc_Root___init__, od_Root___init__, .func (PySem.W.ksFn "__init__" "Root.__init__" (defArgs s_Root___init__) (defBody s_Root___init__) (defScope s_Root___init__) .none kV_Root___init__ dc_Root___init__ pm_Root___init__ an_Root___init__ (.ref ca_Root___init__) ct_Root___init__ cc_Root___init__), sl_Root___init__⟩)
    (h103 : PySem.W.codeIn K (.ref ca_Root___init__) "Root.__init__" = true)
    (h104 : K.lookup ca_Root___init__ = some ⟨oc2_Root___init__, od2_Root___init__, .fields vs_Root___init__, sl2_Root___init__⟩)
    (h105 : vs_Root___init__[2]? = some (.str pfn tf_Root___init__))
    (h106 : K.lookup cc_Root___init__ = some ⟨oc3_Root___init__, od3_Root___init__, .cell (some (.ref C_Root)), sl3_Root___init__⟩)
    (h107 : PySem.W.nsIn K mainGlobals "least_piece" = some (some (.ref f_least_piece)))
    (h108 : K.lookup f_least_piece = some ⟨oc_least_piece, od_least_piece, .func (PySem.W.fnOf "least_piece" "least_piece" (defArgs s_least_piece) (defBody s_least_piece) (defScope s_least_piece) .none kV_least_piece dc_least_piece pm_least_piece an_least_piece cd_least_piece ct_least_piece), sl_least_piece⟩)
    (h109 : PySem.W.codeIn K cd_least_piece "least_piece" = true)
    (h110 : PySem.W.keepIn K (.ref f_least_piece) = true)
    (h111 : PySem.W.nsIn K mainGlobals "contrary_of" = some (some (.ref f_contrary_of)))
    (h112 : K.lookup f_contrary_of = some ⟨oc_contrary_of, od_contrary_of, .func (PySem.W.fnOf "contrary_of" "contrary_of" (defArgs s_contrary_of) (defBody s_contrary_of) (defScope s_contrary_of) .none kV_contrary_of dc_contrary_of pm_contrary_of an_contrary_of cd_contrary_of ct_contrary_of), sl_contrary_of⟩)
    (h113 : PySem.W.codeIn K cd_contrary_of "contrary_of" = true)
    (h114 : PySem.W.keepIn K (.ref f_contrary_of) = true)
    (h115 : PySem.W.nsIn K mainGlobals "root_letters" = some (some (.ref f_root_letters)))
    (h116 : K.lookup f_root_letters = some ⟨oc_root_letters, od_root_letters, .func (PySem.W.fnOf "root_letters" "root_letters" (defArgs s_root_letters) (defBody s_root_letters) (defScope s_root_letters) .none kV_root_letters dc_root_letters pm_root_letters an_root_letters cd_root_letters ct_root_letters), sl_root_letters⟩)
    (h117 : PySem.W.codeIn K cd_root_letters "root_letters" = true)
    (h118 : PySem.W.keepIn K (.ref f_root_letters) = true)
    (h119 : PySem.W.nsIn K mainGlobals "times_in" = some (some (.ref f_times_in)))
    (h120 : K.lookup f_times_in = some ⟨oc_times_in, od_times_in, .func (PySem.W.fnOf "times_in" "times_in" (defArgs s_times_in) (defBody s_times_in) (defScope s_times_in) .none kV_times_in dc_times_in pm_times_in an_times_in cd_times_in ct_times_in), sl_times_in⟩)
    (h121 : PySem.W.codeIn K cd_times_in "times_in" = true)
    (h122 : PySem.W.keepIn K (.ref f_times_in) = true)
    (h123 : PySem.W.nsIn K mainGlobals "common_root" = some (some (.ref f_common_root)))
    (h124 : K.lookup f_common_root = some ⟨oc_common_root, od_common_root, .func (PySem.W.fnOf "common_root" "common_root" (defArgs s_common_root) (defBody s_common_root) (defScope s_common_root) .none kV_common_root dc_common_root pm_common_root an_common_root cd_common_root ct_common_root), sl_common_root⟩)
    (h125 : PySem.W.codeIn K cd_common_root "common_root" = true)
    (h126 : PySem.W.keepIn K (.ref f_common_root) = true)
    (h127 : PySem.W.findIn K (.ref C_Root) "__bool__" = some (some (.ref f_Paper___bool__)))
    (h128 : PySem.W.isFn K (.ref f_Paper___bool__) = true)
    (h129 : K.lookup f_Paper___bool__ = some ⟨oc_Paper___bool__, od_Paper___bool__, .func (PySem.W.fnOf "__bool__" "Paper.__bool__" (defArgs s_Paper___bool__) (defBody s_Paper___bool__) (defScope s_Paper___bool__) .none kV_Paper___bool__ dc_Paper___bool__ pm_Paper___bool__ an_Paper___bool__ cd_Paper___bool__ ct_Paper___bool__), sl_Paper___bool__⟩)
    (h130 : PySem.W.codeIn K cd_Paper___bool__ "Paper.__bool__" = true)
    (h131 : PySem.W.keepIn K (.ref f_Paper___bool__) = true)
    (h132 : PySem.W.findIn K (.ref C_NoRoot) "__bool__" = some (some (.ref f_Denial___bool__)))
    (h133 : PySem.W.isFn K (.ref f_Denial___bool__) = true)
    (h134 : K.lookup f_Denial___bool__ = some ⟨oc_Denial___bool__, od_Denial___bool__, .func (PySem.W.fnOf "__bool__" "Denial.__bool__" (defArgs s_Denial___bool__) (defBody s_Denial___bool__) (defScope s_Denial___bool__) .none kV_Denial___bool__ dc_Denial___bool__ pm_Denial___bool__ an_Denial___bool__ cd_Denial___bool__ ct_Denial___bool__), sl_Denial___bool__⟩)
    (h135 : PySem.W.codeIn K cd_Denial___bool__ "Denial.__bool__" = true)
    (h136 : PySem.W.keepIn K (.ref f_Denial___bool__) = true)
    (h137 : PySem.W.nsIn K mainGlobals "_law_couple_right" = some (some (.ref f_l_couple_right)))
    (h138 : K.lookup f_l_couple_right = some ⟨oc_l_couple_right, od_l_couple_right, .func (PySem.W.fnOf "_law_couple_right" "_law_couple_right" (defArgs s_l_couple_right) (defBody s_l_couple_right) (defScope s_l_couple_right) .none kV_l_couple_right dc_l_couple_right pm_l_couple_right an_l_couple_right cd_l_couple_right ct_l_couple_right), sl_l_couple_right⟩)
    (h139 : PySem.W.codeIn K cd_l_couple_right "_law_couple_right" = true)
    (h140 : PySem.W.keepIn K (.ref f_l_couple_right) = true)
    (h141 : PySem.W.nsIn K mainGlobals "_law_pick" = some (some (.ref f_l_pick)))
    (h142 : K.lookup f_l_pick = some ⟨oc_l_pick, od_l_pick, .func (PySem.W.fnOf "_law_pick" "_law_pick" (defArgs s_l_pick) (defBody s_l_pick) (defScope s_l_pick) .none kV_l_pick dc_l_pick pm_l_pick an_l_pick cd_l_pick ct_l_pick), sl_l_pick⟩)
    (h143 : PySem.W.codeIn K cd_l_pick "_law_pick" = true)
    (h144 : PySem.W.keepIn K (.ref f_l_pick) = true)
    (h145 : PySem.W.findIn K (.ref C_Word) "then" = some (some (.ref f_Word_then)))
    (h146 : PySem.W.isFn K (.ref f_Word_then) = true)
    (h147 : K.lookup f_Word_then = some ⟨oc_Word_then, od_Word_then, .func (PySem.W.fnOf "then" "Word.then" (defArgs s_Word_then) (defBody s_Word_then) (defScope s_Word_then) .none kV_Word_then dc_Word_then pm_Word_then an_Word_then cd_Word_then ct_Word_then), sl_Word_then⟩)
    (h148 : PySem.W.codeIn K cd_Word_then "Word.then" = true)
    (h149 : PySem.W.keepIn K (.ref f_Word_then) = true)
    (h150 : PySem.W.findIn K (.ref C_Word) "contrary" = some (some (.ref f_Word_contrary)))
    (h151 : PySem.W.isFn K (.ref f_Word_contrary) = true)
    (h152 : K.lookup f_Word_contrary = some ⟨oc_Word_contrary, od_Word_contrary, .func (PySem.W.fnOf "contrary" "Word.contrary" (defArgs s_Word_contrary) (defBody s_Word_contrary) (defScope s_Word_contrary) .none kV_Word_contrary dc_Word_contrary pm_Word_contrary an_Word_contrary cd_Word_contrary ct_Word_contrary), sl_Word_contrary⟩)
    (h153 : PySem.W.codeIn K cd_Word_contrary "Word.contrary" = true)
    (h154 : PySem.W.keepIn K (.ref f_Word_contrary) = true)
    (h155 : PySem.W.nsIn K mainGlobals "need_number" = some (some (.ref f_need_number)))
    (h156 : K.lookup f_need_number = some ⟨oc_need_number, od_need_number, .func (PySem.W.fnOf "need_number" "need_number" (defArgs s_need_number) (defBody s_need_number) (defScope s_need_number) .none kV_need_number dc_need_number pm_need_number an_need_number cd_need_number ct_need_number), sl_need_number⟩)
    (h157 : PySem.W.codeIn K cd_need_number "need_number" = true)
    (h158 : PySem.W.keepIn K (.ref f_need_number) = true)
    (h159 : PySem.W.findIn K (.ref C_Word) "times" = some (some (.ref f_Word_times)))
    (h160 : PySem.W.isFn K (.ref f_Word_times) = true)
    (h161 : K.lookup f_Word_times = some ⟨oc_Word_times, od_Word_times, .func (PySem.W.fnOf "times" "Word.times" (defArgs s_Word_times) (defBody s_Word_times) (defScope s_Word_times) .none kV_Word_times dc_Word_times pm_Word_times an_Word_times cd_Word_times ct_Word_times), sl_Word_times⟩)
    (h162 : PySem.W.codeIn K cd_Word_times "Word.times" = true)
    (h163 : PySem.W.keepIn K (.ref f_Word_times) = true)
    (h164 : PySem.W.findIn K (.ref C_Word) "__eq__" = some (some (.ref f_Word___eq__)))
    (h165 : PySem.W.isFn K (.ref f_Word___eq__) = true)
    (h166 : K.lookup f_Word___eq__ = some ⟨oc_Word___eq__, od_Word___eq__, .func (PySem.W.fnOf "__eq__" "Word.__eq__" (defArgs s_Word___eq__) (defBody s_Word___eq__) (defScope s_Word___eq__) .none kV_Word___eq__ dc_Word___eq__ pm_Word___eq__ an_Word___eq__ cd_Word___eq__ ct_Word___eq__), sl_Word___eq__⟩)
    (h167 : PySem.W.codeIn K cd_Word___eq__ "Word.__eq__" = true)
    (h168 : PySem.W.keepIn K (.ref f_Word___eq__) = true)
    (h169 : PySem.W.nsIn K mainGlobals "_law_pair_right" = some (some (.ref f_l_pair_right)))
    (h170 : K.lookup f_l_pair_right = some ⟨oc_l_pair_right, od_l_pair_right, .func (PySem.W.fnOf "_law_pair_right" "_law_pair_right" (defArgs s_l_pair_right) (defBody s_l_pair_right) (defScope s_l_pair_right) .none kV_l_pair_right dc_l_pair_right pm_l_pair_right an_l_pair_right cd_l_pair_right ct_l_pair_right), sl_l_pair_right⟩)
    (h171 : PySem.W.codeIn K cd_l_pair_right "_law_pair_right" = true)
    (h172 : PySem.W.keepIn K (.ref f_l_pair_right) = true)
    (h173 : PySem.W.nsIn K mainGlobals "law" = some (some (.ref f_law)))
    (h174 : K.lookup f_law = some ⟨oc_law, od_law, .func (PySem.W.fnOf "law" "law" (defArgs s_law) (defBody s_law) (defScope s_law) .none kV_law dc_law pm_law an_law cd_law ct_law), sl_law⟩)
    (h175 : PySem.W.codeIn K cd_law "law" = true)
    (h176 : PySem.W.keepIn K (.ref f_law) = true)
    (h177 : PySem.W.plainGet K C_Word Str.empty = true)
    (h178 : PySem.W.hasDictIn K C_Word = true)
    (h179 : PySem.W.plainOver K C_Word = true)
    (h180 : PySem.W.findIn K (.ref C_Word) "__setattr__" = some (some (.builtin "object.__setattr__")))
    (h181 : PySem.W.makesIn K C_Word = true)
    (h182 : PySem.W.keepIn K (.ref C_Word) = true)
    (h183 : PySem.W.plainGet K C_NoRoot Str.empty = true)
    (h184 : PySem.W.hasDictIn K C_NoRoot = true)
    (h185 : PySem.W.plainOver K C_NoRoot = true)
    (h186 : PySem.W.findIn K (.ref C_NoRoot) "__setattr__" = some (some (.builtin "object.__setattr__")))
    (h187 : PySem.W.makesIn K C_NoRoot = true)
    (h188 : PySem.W.keepIn K (.ref C_NoRoot) = true)
    (h189 : PySem.W.plainGet K C_Root Str.empty = true)
    (h190 : PySem.W.hasDictIn K C_Root = true)
    (h191 : PySem.W.plainOver K C_Root = true)
    (h192 : PySem.W.findIn K (.ref C_Root) "__setattr__" = some (some (.builtin "object.__setattr__")))
    (h193 : PySem.W.makesIn K C_Root = true)
    (h194 : PySem.W.keepIn K (.ref C_Root) = true)
    (h195 : PySem.W.findIn K (.ref C_NoRoot) "parts" = some none)
    (h196 : PySem.W.findIn K (.ref C_NoRoot) "word" = some none)
    (h197 : PySem.W.findIn K (.ref C_Root) "here" = some none)
    (h198 : PySem.W.findIn K (.ref C_Root) "parts" = some none)
    (h199 : PySem.W.findIn K (.ref C_Root) "root" = some none)
    (h200 : PySem.W.findIn K (.ref C_Root) "there" = some none)
    (h201 : PySem.W.findIn K (.ref C_Root) "word" = some none)
    (h202 : PySem.W.findIn K (.ref C_Word) "is_short" = some none)
    (h203 : PySem.W.findIn K (.ref C_Word) "is_short_round" = some none)
    (h204 : PySem.W.findIn K (.ref C_Word) "kinds" = some none)
    (h205 : PySem.W.findIn K (.ref C_Word) "length" = some none)
    (h206 : PySem.W.findIn K (.ref C_Word) "letters" = some none)
    (h207 : PySem.W.findIn K (.ref C_Word) "__class__" = some (some (.builtin "object.__class__")))
    (h208 : PySem.W.specialIn K (.builtin "object.__class__") "__get__" = some (some (.builtin "getset_descriptor.__get__")))
    (h209 : PySem.W.takesIn K (.builtin "object.__class__") = some true)
    (h210 : PySem.W.mroIn K C_Word (.type "object") = some true)
    (h211 : PySem.W.findIn K (.ref C_Word) "__ne__" = some (some (.builtin "object.__ne__")))
    (h212 : PySem.W.nsIn K mainGlobals "abs" = some none)
    (h213 : PySem.W.nsIn K mainGlobals "all" = some none)
    (h214 : PySem.W.nsIn K mainGlobals "bool" = some none)
    (h215 : PySem.W.nsIn K mainGlobals "enumerate" = some none)
    (h216 : PySem.W.nsIn K mainGlobals "int" = some none)
    (h217 : PySem.W.nsIn K mainGlobals "isinstance" = some none)
    (h218 : PySem.W.nsIn K mainGlobals "len" = some none)
    (h219 : PySem.W.nsIn K mainGlobals "list" = some none)
    (h220 : PySem.W.nsIn K mainGlobals "range" = some none)
    (h221 : PySem.W.nsIn K mainGlobals "repr" = some none)
    (h222 : PySem.W.nsIn K mainGlobals "sorted" = some none)
    (h223 : PySem.W.nsIn K mainGlobals "tuple" = some none)
    (h224 : PySem.W.nsIn K mainGlobals "zip" = some none)
    (h225 : PySem.W.kitAny K (.ref C_Word) [.type "list", .type "tuple"] = some false)
    (h226 : PySem.W.findIn K (.ref C_NoRoot) "__bool__" = some (some (.ref f_Denial___bool__)))
    (h227 : PySem.W.isFn K (.ref f_Denial___bool__) = true)
    (h228 : PySem.W.findIn K (.ref C_Root) "__bool__" = some (some (.ref f_Paper___bool__)))
    (h229 : PySem.W.isFn K (.ref f_Paper___bool__) = true)
    (h230 : PySem.W.nsIn K mainGlobals "super" = some none)
    (h231 : PySem.W.typeIn K (.ref f_Paper___init__) = some (.type "function"))
    (h232 : PySem.W.fnIn K f_Paper___init__ = true)
    (h233 : PySem.W.nsIn K PySem.cStatics "thirdparty.any" = some none)
    (h234 : PySem.W.mroIn K C_NoRoot (.ref C_NoRoot) = some true)
    (h235 : PySem.W.ks_superIn K C_NoRoot C_NoRoot "__init__" = some (some (.ref f_Paper___init__)))
    (h236 : PySem.W.mroIn K C_Root (.ref C_Root) = some true)
    (h237 : PySem.W.ks_superIn K C_Root C_Root "__init__" = some (some (.ref f_Paper___init__)))
    (h238 : ((P.main.file : Str) == pfn) = true)
    (h239 : (P.main.scope.names.lookup ("super" : Str)).isSome = false)
    (h240 : PySem.W.nsIn K mainGlobals "LAST_KIND" = some (some (.int 26 t_LAST_KIND)))
    (h241 : PySem.W.nsIn K mainGlobals "MOST_LETTERS" = some (some (.int 500 t_MOST_LETTERS))) :
    ∃ (T : Tx P K mg) (kV dc pm cd ct : Value) (an : Option Addr), T.d_law = PySem.W.fnOf "law" "law" (defArgs s_law) (defBody s_law) (defScope s_law) .none kV dc pm an cd ct :=
  ⟨{ C_Word := C_Word,
      g_Word := PySem.W.mg_of X G h0,
      C_NoRoot := C_NoRoot,
      g_NoRoot := PySem.W.mg_of X G h1,
      C_Root := C_Root,
      g_Root := PySem.W.mg_of X G h2,
      a_l_jar := f_l_jar,
      d_l_jar := PySem.W.fnOf "_law_jar" "_law_jar" (defArgs s_l_jar) (defBody s_l_jar) (defScope s_l_jar) .none kV_l_jar dc_l_jar pm_l_jar an_l_jar cd_l_jar ct_l_jar,
      F_l_jar := (fun_mk (st := s_l_jar) h4 h5 h6),
      b_l_jar := ((fun_mk (st := s_l_jar) h4 h5 h6).binds (ps := ["_law_script"]) fun _ _ _ _ _ _ us hl => match us, hl with | [_], _ => rfl),
      g_l_jar := PySem.W.mg_of X G h3,
      a_l_draw := f_l_draw,
      d_l_draw := PySem.W.fnOf "_law_draw" "_law_draw" (defArgs s_l_draw) (defBody s_l_draw) (defScope s_l_draw) .none kV_l_draw dc_l_draw pm_l_draw an_l_draw cd_l_draw ct_l_draw,
      F_l_draw := (fun_mk (st := s_l_draw) h8 h9 h10),
      b_l_draw := ((fun_mk (st := s_l_draw) h8 h9 h10).binds (ps := ["_law_jar_here", "_law_many"]) fun _ _ _ _ _ _ us hl => match us, hl with | [_, _], _ => rfl),
      g_l_draw := PySem.W.mg_of X G h7,
      a_l_words := f_l_words,
      d_l_words := PySem.W.fnOf "_law_words" "_law_words" (defArgs s_l_words) (defBody s_l_words) (defScope s_l_words) .none kV_l_words dc_l_words pm_l_words an_l_words cd_l_words ct_l_words,
      F_l_words := (fun_mk (st := s_l_words) h12 h13 h14),
      b_l_words := ((fun_mk (st := s_l_words) h12 h13 h14).binds (ps := ["_law_kinds", "_law_most"]) fun _ _ _ _ _ _ us hl => match us, hl with | [_, _], _ => rfl),
      g_l_words := PySem.W.mg_of X G h11,
      a_l_contrary := f_l_contrary,
      d_l_contrary := PySem.W.fnOf "_law_contrary" "_law_contrary" (defArgs s_l_contrary) (defBody s_l_contrary) (defScope s_l_contrary) .none kV_l_contrary dc_l_contrary pm_l_contrary an_l_contrary cd_l_contrary ct_l_contrary,
      F_l_contrary := (fun_mk (st := s_l_contrary) h16 h17 h18),
      b_l_contrary := ((fun_mk (st := s_l_contrary) h16 h17 h18).binds (ps := ["_law_letters"]) fun _ _ _ _ _ _ us hl => match us, hl with | [_], _ => rfl),
      g_l_contrary := PySem.W.mg_of X G h15,
      a_l_short := f_l_short,
      d_l_short := PySem.W.fnOf "_law_short" "_law_short" (defArgs s_l_short) (defBody s_l_short) (defScope s_l_short) .none kV_l_short dc_l_short pm_l_short an_l_short cd_l_short ct_l_short,
      F_l_short := (fun_mk (st := s_l_short) h20 h21 h22),
      b_l_short := ((fun_mk (st := s_l_short) h20 h21 h22).binds (ps := ["_law_letters"]) fun _ _ _ _ _ _ us hl => match us, hl with | [_], _ => rfl),
      g_l_short := PySem.W.mg_of X G h19,
      a_l_powers := f_l_powers,
      d_l_powers := PySem.W.fnOf "_law_powers" "_law_powers" (defArgs s_l_powers) (defBody s_l_powers) (defScope s_l_powers) .none kV_l_powers dc_l_powers pm_l_powers an_l_powers cd_l_powers ct_l_powers,
      F_l_powers := (fun_mk (st := s_l_powers) h24 h25 h26),
      b_l_powers := ((fun_mk (st := s_l_powers) h24 h25 h26).binds (ps := ["_law_words_here"]) fun _ _ _ _ _ _ us hl => match us, hl with | [_], _ => rfl),
      g_l_powers := PySem.W.mg_of X G h23,
      a_l_are_of_one := f_l_are_of_one,
      d_l_are_of_one := PySem.W.fnOf "_law_are_of_one" "_law_are_of_one" (defArgs s_l_are_of_one) (defBody s_l_are_of_one) (defScope s_l_are_of_one) .none kV_l_are_of_one dc_l_are_of_one pm_l_are_of_one an_l_are_of_one cd_l_are_of_one ct_l_are_of_one,
      F_l_are_of_one := (fun_mk (st := s_l_are_of_one) h28 h29 h30),
      b_l_are_of_one := ((fun_mk (st := s_l_are_of_one) h28 h29 h30).binds (ps := ["_law_known", "_law_one", "_law_other"]) fun _ _ _ _ _ _ us hl => match us, hl with | [_, _, _], _ => rfl),
      g_l_are_of_one := PySem.W.mg_of X G h27,
      a_is_listed := f_is_listed,
      d_is_listed := PySem.W.fnOf "is_listed" "is_listed" (defArgs s_is_listed) (defBody s_is_listed) (defScope s_is_listed) .none kV_is_listed dc_is_listed pm_is_listed an_is_listed cd_is_listed ct_is_listed,
      F_is_listed := (fun_mk (st := s_is_listed) h32 h33 h34),
      b_is_listed := ((fun_mk (st := s_is_listed) h32 h33 h34).binds (ps := ["value"]) fun _ _ _ _ _ _ us hl => match us, hl with | [_], _ => rfl),
      g_is_listed := PySem.W.mg_of X G h31,
      a_is_integer := f_is_integer,
      d_is_integer := PySem.W.fnOf "is_integer" "is_integer" (defArgs s_is_integer) (defBody s_is_integer) (defScope s_is_integer) .none kV_is_integer dc_is_integer pm_is_integer an_is_integer cd_is_integer ct_is_integer,
      F_is_integer := (fun_mk (st := s_is_integer) h36 h37 h38),
      b_is_integer := ((fun_mk (st := s_is_integer) h36 h37 h38).binds (ps := ["value"]) fun _ _ _ _ _ _ us hl => match us, hl with | [_], _ => rfl),
      g_is_integer := PySem.W.mg_of X G h35,
      a_is_within := f_is_within,
      d_is_within := PySem.W.fnOf "is_within" "is_within" (defArgs s_is_within) (defBody s_is_within) (defScope s_is_within) .none kV_is_within dc_is_within pm_is_within an_is_within cd_is_within ct_is_within,
      F_is_within := (fun_mk (st := s_is_within) h40 h41 h42),
      b_is_within := ((fun_mk (st := s_is_within) h40 h41 h42).binds (ps := ["value", "least", "most"]) fun _ _ _ _ _ _ us hl => match us, hl with | [_, _, _], _ => rfl),
      g_is_within := PySem.W.mg_of X G h39,
      a_is_letter := f_is_letter,
      d_is_letter := PySem.W.fnOf "is_letter" "is_letter" (defArgs s_is_letter) (defBody s_is_letter) (defScope s_is_letter) .none kV_is_letter dc_is_letter pm_is_letter an_is_letter cd_is_letter ct_is_letter,
      F_is_letter := (fun_mk (st := s_is_letter) h44 h45 h46),
      b_is_letter := ((fun_mk (st := s_is_letter) h44 h45 h46).binds (ps := ["value"]) fun _ _ _ _ _ _ us hl => match us, hl with | [_], _ => rfl),
      g_is_letter := PySem.W.mg_of X G h43,
      a_are_letters := f_are_letters,
      d_are_letters := PySem.W.fnOf "are_letters" "are_letters" (defArgs s_are_letters) (defBody s_are_letters) (defScope s_are_letters) .none kV_are_letters dc_are_letters pm_are_letters an_are_letters cd_are_letters ct_are_letters,
      F_are_letters := (fun_mk (st := s_are_letters) h48 h49 h50),
      b_are_letters := ((fun_mk (st := s_are_letters) h48 h49 h50).binds (ps := ["value"]) fun _ _ _ _ _ _ us hl => match us, hl with | [_], _ => rfl),
      g_are_letters := PySem.W.mg_of X G h47,
      a_need_few := f_need_few,
      d_need_few := PySem.W.fnOf "need_few" "need_few" (defArgs s_need_few) (defBody s_need_few) (defScope s_need_few) .none kV_need_few dc_need_few pm_need_few an_need_few cd_need_few ct_need_few,
      F_need_few := (fun_mk (st := s_need_few) h52 h53 h54),
      b_need_few := ((fun_mk (st := s_need_few) h52 h53 h54).binds (ps := ["many"]) fun _ _ _ _ _ _ us hl => match us, hl with | [_], _ => rfl),
      g_need_few := PySem.W.mg_of X G h51,
      a_are_short := f_are_short,
      d_are_short := PySem.W.fnOf "are_short" "are_short" (defArgs s_are_short) (defBody s_are_short) (defScope s_are_short) .none kV_are_short dc_are_short pm_are_short an_are_short cd_are_short ct_are_short,
      F_are_short := (fun_mk (st := s_are_short) h56 h57 h58),
      b_are_short := ((fun_mk (st := s_are_short) h56 h57 h58).binds (ps := ["letters"]) fun _ _ _ _ _ _ us hl => match us, hl with | [_], _ => rfl),
      g_are_short := PySem.W.mg_of X G h55,
      a_rounded_of := f_rounded_of,
      d_rounded_of := PySem.W.fnOf "rounded_of" "rounded_of" (defArgs s_rounded_of) (defBody s_rounded_of) (defScope s_rounded_of) .none kV_rounded_of dc_rounded_of pm_rounded_of an_rounded_of cd_rounded_of ct_rounded_of,
      F_rounded_of := (fun_mk (st := s_rounded_of) h60 h61 h62),
      b_rounded_of := ((fun_mk (st := s_rounded_of) h60 h61 h62).binds (ps := ["letters"]) fun _ _ _ _ _ _ us hl => match us, hl with | [_], _ => rfl),
      g_rounded_of := PySem.W.mg_of X G h59,
      a_Word___init__ := f_Word___init__,
      d_Word___init__ := PySem.W.fnOf "__init__" "Word.__init__" (defArgs s_Word___init__) (defBody s_Word___init__) (defScope s_Word___init__) .none kV_Word___init__ dc_Word___init__ pm_Word___init__ an_Word___init__ cd_Word___init__ ct_Word___init__,
      F_Word___init__ := (fun_mk (st := s_Word___init__) h65 h66 h67),
      b_Word___init__ := ((fun_mk (st := s_Word___init__) h65 h66 h67).binds (ps := ["self", "letters"]) fun _ _ _ _ _ _ us hl => match us, hl with | [_, _], _ => rfl),
      a_need_word := f_need_word,
      d_need_word := PySem.W.fnOf "need_word" "need_word" (defArgs s_need_word) (defBody s_need_word) (defScope s_need_word) .none kV_need_word dc_need_word pm_need_word an_need_word cd_need_word ct_need_word,
      F_need_word := (fun_mk (st := s_need_word) h69 h70 h71),
      b_need_word := ((fun_mk (st := s_need_word) h69 h70 h71).binds (ps := ["value", "part"]) fun _ _ _ _ _ _ us hl => match us, hl with | [_, _], _ => rfl),
      g_need_word := PySem.W.mg_of X G h68,
      a_shortened_of := f_shortened_of,
      d_shortened_of := PySem.W.fnOf "shortened_of" "shortened_of" (defArgs s_shortened_of) (defBody s_shortened_of) (defScope s_shortened_of) .none kV_shortened_of dc_shortened_of pm_shortened_of an_shortened_of cd_shortened_of ct_shortened_of,
      F_shortened_of := (fun_mk (st := s_shortened_of) h73 h74 h75),
      b_shortened_of := ((fun_mk (st := s_shortened_of) h73 h74 h75).binds (ps := ["letters"]) fun _ _ _ _ _ _ us hl => match us, hl with | [_], _ => rfl),
      g_shortened_of := PySem.W.mg_of X G h72,
      a_do_pass := f_do_pass,
      d_do_pass := PySem.W.fnOf "do_pass" "do_pass" (defArgs s_do_pass) (defBody s_do_pass) (defScope s_do_pass) .none kV_do_pass dc_do_pass pm_do_pass an_do_pass cd_do_pass ct_do_pass,
      F_do_pass := (fun_mk (st := s_do_pass) h77 h78 h79),
      b_do_pass := ((fun_mk (st := s_do_pass) h77 h78 h79).binds (ps := ["one", "other"]) fun _ _ _ _ _ _ us hl => match us, hl with | [_, _], _ => rfl),
      g_do_pass := PySem.W.mg_of X G h76,
      a_go_past := f_go_past,
      d_go_past := PySem.W.fnOf "go_past" "go_past" (defArgs s_go_past) (defBody s_go_past) (defScope s_go_past) .none kV_go_past dc_go_past pm_go_past an_go_past cd_go_past ct_go_past,
      F_go_past := (fun_mk (st := s_go_past) h81 h82 h83),
      b_go_past := ((fun_mk (st := s_go_past) h81 h82 h83).binds (ps := ["one", "other"]) fun _ _ _ _ _ _ us hl => match us, hl with | [_, _], _ => rfl),
      g_go_past := PySem.W.mg_of X G h80,
      a_fixed := f_fixed,
      d_fixed := PySem.W.fnOf "fixed" "fixed" (defArgs s_fixed) (defBody s_fixed) (defScope s_fixed) .none kV_fixed dc_fixed pm_fixed an_fixed cd_fixed ct_fixed,
      F_fixed := (fun_mk (st := s_fixed) h85 h86 h87),
      b_fixed := ((fun_mk (st := s_fixed) h85 h86 h87).binds (ps := ["value"]) fun _ _ _ _ _ _ us hl => match us, hl with | [_], _ => rfl),
      g_fixed := PySem.W.mg_of X G h84,
      a_Paper___init__ := f_Paper___init__,
      d_Paper___init__ := PySem.W.fnOf "__init__" "Paper.__init__" (defArgs s_Paper___init__) (defBody s_Paper___init__) (defScope s_Paper___init__) .none kV_Paper___init__ dc_Paper___init__ pm_Paper___init__ an_Paper___init__ cd_Paper___init__ ct_Paper___init__,
      F_Paper___init__ := (fun_mk (st := s_Paper___init__) h90 h91 h92),
      a_NoRoot___init__ := f_NoRoot___init__,
      d_NoRoot___init__ := PySem.W.ksFn "__init__" "NoRoot.__init__" (defArgs s_NoRoot___init__) (defBody s_NoRoot___init__) (defScope s_NoRoot___init__) .none kV_NoRoot___init__ dc_NoRoot___init__ pm_NoRoot___init__ an_NoRoot___init__ (.ref ca_NoRoot___init__) ct_NoRoot___init__ cc_NoRoot___init__,
      ca_NoRoot___init__ := ca_NoRoot___init__,
      cc_NoRoot___init__ := cc_NoRoot___init__,
      F_NoRoot___init__ := ⟨⟨oc_NoRoot___init__, od_NoRoot___init__, kV_NoRoot___init__, dc_NoRoot___init__, pm_NoRoot___init__, ct_NoRoot___init__, an_NoRoot___init__, sl_NoRoot___init__, rfl, h95, h96⟩, ⟨oc2_NoRoot___init__, od2_NoRoot___init__, vs_NoRoot___init__, sl2_NoRoot___init__, tf_NoRoot___init__, h97, h98⟩, ⟨oc3_NoRoot___init__, od3_NoRoot___init__, sl3_NoRoot___init__, h99⟩⟩,
      b_NoRoot___init__ := .all (fun us hl => match us, hl with | [_], _ => rfl),
      a_Root___init__ := f_Root___init__,
      d_Root___init__ := PySem.W.ksFn "__init__" "Root.__init__" (defArgs s_Root___init__) (defBody s_Root___init__) (defScope s_Root___init__) .none kV_Root___init__ dc_Root___init__ pm_Root___init__ an_Root___init__ (.ref ca_Root___init__) ct_Root___init__ cc_Root___init__,
      ca_Root___init__ := ca_Root___init__,
      cc_Root___init__ := cc_Root___init__,
      F_Root___init__ := ⟨⟨oc_Root___init__, od_Root___init__, kV_Root___init__, dc_Root___init__, pm_Root___init__, ct_Root___init__, an_Root___init__, sl_Root___init__, rfl, h102, h103⟩, ⟨oc2_Root___init__, od2_Root___init__, vs_Root___init__, sl2_Root___init__, tf_Root___init__, h104, h105⟩, ⟨oc3_Root___init__, od3_Root___init__, sl3_Root___init__, h106⟩⟩,
      b_Root___init__ := .all (fun us hl => match us, hl with | [_, _, _, _], _ => rfl),
      a_least_piece := f_least_piece,
      d_least_piece := PySem.W.fnOf "least_piece" "least_piece" (defArgs s_least_piece) (defBody s_least_piece) (defScope s_least_piece) .none kV_least_piece dc_least_piece pm_least_piece an_least_piece cd_least_piece ct_least_piece,
      F_least_piece := (fun_mk (st := s_least_piece) h108 h109 h110),
      b_least_piece := ((fun_mk (st := s_least_piece) h108 h109 h110).binds (ps := ["letters"]) fun _ _ _ _ _ _ us hl => match us, hl with | [_], _ => rfl),
      g_least_piece := PySem.W.mg_of X G h107,
      a_contrary_of := f_contrary_of,
      d_contrary_of := PySem.W.fnOf "contrary_of" "contrary_of" (defArgs s_contrary_of) (defBody s_contrary_of) (defScope s_contrary_of) .none kV_contrary_of dc_contrary_of pm_contrary_of an_contrary_of cd_contrary_of ct_contrary_of,
      F_contrary_of := (fun_mk (st := s_contrary_of) h112 h113 h114),
      b_contrary_of := ((fun_mk (st := s_contrary_of) h112 h113 h114).binds (ps := ["letters"]) fun _ _ _ _ _ _ us hl => match us, hl with | [_], _ => rfl),
      g_contrary_of := PySem.W.mg_of X G h111,
      a_root_letters := f_root_letters,
      d_root_letters := PySem.W.fnOf "root_letters" "root_letters" (defArgs s_root_letters) (defBody s_root_letters) (defScope s_root_letters) .none kV_root_letters dc_root_letters pm_root_letters an_root_letters cd_root_letters ct_root_letters,
      F_root_letters := (fun_mk (st := s_root_letters) h116 h117 h118),
      b_root_letters := ((fun_mk (st := s_root_letters) h116 h117 h118).binds (ps := ["letters"]) fun _ _ _ _ _ _ us hl => match us, hl with | [_], _ => rfl),
      g_root_letters := PySem.W.mg_of X G h115,
      a_times_in := f_times_in,
      d_times_in := PySem.W.fnOf "times_in" "times_in" (defArgs s_times_in) (defBody s_times_in) (defScope s_times_in) .none kV_times_in dc_times_in pm_times_in an_times_in cd_times_in ct_times_in,
      F_times_in := (fun_mk (st := s_times_in) h120 h121 h122),
      b_times_in := ((fun_mk (st := s_times_in) h120 h121 h122).binds (ps := ["letters", "root"]) fun _ _ _ _ _ _ us hl => match us, hl with | [_, _], _ => rfl),
      g_times_in := PySem.W.mg_of X G h119,
      a_common_root := f_common_root,
      d_common_root := PySem.W.fnOf "common_root" "common_root" (defArgs s_common_root) (defBody s_common_root) (defScope s_common_root) .none kV_common_root dc_common_root pm_common_root an_common_root cd_common_root ct_common_root,
      F_common_root := (fun_mk (st := s_common_root) h124 h125 h126),
      b_common_root := ((fun_mk (st := s_common_root) h124 h125 h126).binds (ps := ["one", "other"]) fun _ _ _ _ _ _ us hl => match us, hl with | [_, _], _ => rfl),
      g_common_root := PySem.W.mg_of X G h123,
      a_Paper___bool__ := f_Paper___bool__,
      d_Paper___bool__ := PySem.W.fnOf "__bool__" "Paper.__bool__" (defArgs s_Paper___bool__) (defBody s_Paper___bool__) (defScope s_Paper___bool__) .none kV_Paper___bool__ dc_Paper___bool__ pm_Paper___bool__ an_Paper___bool__ cd_Paper___bool__ ct_Paper___bool__,
      F_Paper___bool__ := (fun_mk (st := s_Paper___bool__) h129 h130 h131),
      b_Paper___bool__ := ((fun_mk (st := s_Paper___bool__) h129 h130 h131).binds (ps := ["self"]) fun _ _ _ _ _ _ us hl => match us, hl with | [_], _ => rfl),
      a_Denial___bool__ := f_Denial___bool__,
      d_Denial___bool__ := PySem.W.fnOf "__bool__" "Denial.__bool__" (defArgs s_Denial___bool__) (defBody s_Denial___bool__) (defScope s_Denial___bool__) .none kV_Denial___bool__ dc_Denial___bool__ pm_Denial___bool__ an_Denial___bool__ cd_Denial___bool__ ct_Denial___bool__,
      F_Denial___bool__ := (fun_mk (st := s_Denial___bool__) h134 h135 h136),
      b_Denial___bool__ := ((fun_mk (st := s_Denial___bool__) h134 h135 h136).binds (ps := ["self"]) fun _ _ _ _ _ _ us hl => match us, hl with | [_], _ => rfl),
      a_l_couple_right := f_l_couple_right,
      d_l_couple_right := PySem.W.fnOf "_law_couple_right" "_law_couple_right" (defArgs s_l_couple_right) (defBody s_l_couple_right) (defScope s_l_couple_right) .none kV_l_couple_right dc_l_couple_right pm_l_couple_right an_l_couple_right cd_l_couple_right ct_l_couple_right,
      F_l_couple_right := (fun_mk (st := s_l_couple_right) h138 h139 h140),
      b_l_couple_right := ((fun_mk (st := s_l_couple_right) h138 h139 h140).binds (ps := ["_law_known", "_law_one", "_law_other"]) fun _ _ _ _ _ _ us hl => match us, hl with | [_, _, _], _ => rfl),
      g_l_couple_right := PySem.W.mg_of X G h137,
      a_l_pick := f_l_pick,
      d_l_pick := PySem.W.fnOf "_law_pick" "_law_pick" (defArgs s_l_pick) (defBody s_l_pick) (defScope s_l_pick) .none kV_l_pick dc_l_pick pm_l_pick an_l_pick cd_l_pick ct_l_pick,
      F_l_pick := (fun_mk (st := s_l_pick) h142 h143 h144),
      b_l_pick := ((fun_mk (st := s_l_pick) h142 h143 h144).binds (ps := ["_law_jar_here", "_law_some"]) fun _ _ _ _ _ _ us hl => match us, hl with | [_, _], _ => rfl),
      g_l_pick := PySem.W.mg_of X G h141,
      a_Word_then := f_Word_then,
      d_Word_then := PySem.W.fnOf "then" "Word.then" (defArgs s_Word_then) (defBody s_Word_then) (defScope s_Word_then) .none kV_Word_then dc_Word_then pm_Word_then an_Word_then cd_Word_then ct_Word_then,
      F_Word_then := (fun_mk (st := s_Word_then) h147 h148 h149),
      b_Word_then := ((fun_mk (st := s_Word_then) h147 h148 h149).binds (ps := ["self", "other"]) fun _ _ _ _ _ _ us hl => match us, hl with | [_, _], _ => rfl),
      a_Word_contrary := f_Word_contrary,
      d_Word_contrary := PySem.W.fnOf "contrary" "Word.contrary" (defArgs s_Word_contrary) (defBody s_Word_contrary) (defScope s_Word_contrary) .none kV_Word_contrary dc_Word_contrary pm_Word_contrary an_Word_contrary cd_Word_contrary ct_Word_contrary,
      F_Word_contrary := (fun_mk (st := s_Word_contrary) h152 h153 h154),
      b_Word_contrary := ((fun_mk (st := s_Word_contrary) h152 h153 h154).binds (ps := ["self"]) fun _ _ _ _ _ _ us hl => match us, hl with | [_], _ => rfl),
      a_need_number := f_need_number,
      d_need_number := PySem.W.fnOf "need_number" "need_number" (defArgs s_need_number) (defBody s_need_number) (defScope s_need_number) .none kV_need_number dc_need_number pm_need_number an_need_number cd_need_number ct_need_number,
      F_need_number := (fun_mk (st := s_need_number) h156 h157 h158),
      b_need_number := ((fun_mk (st := s_need_number) h156 h157 h158).binds (ps := ["value", "part", "least", "most"]) fun _ _ _ _ _ _ us hl => match us, hl with | [_, _, _, _], _ => rfl),
      g_need_number := PySem.W.mg_of X G h155,
      a_Word_times := f_Word_times,
      d_Word_times := PySem.W.fnOf "times" "Word.times" (defArgs s_Word_times) (defBody s_Word_times) (defScope s_Word_times) .none kV_Word_times dc_Word_times pm_Word_times an_Word_times cd_Word_times ct_Word_times,
      F_Word_times := (fun_mk (st := s_Word_times) h161 h162 h163),
      b_Word_times := ((fun_mk (st := s_Word_times) h161 h162 h163).binds (ps := ["self", "number"]) fun _ _ _ _ _ _ us hl => match us, hl with | [_, _], _ => rfl),
      a_Word___eq__ := f_Word___eq__,
      d_Word___eq__ := PySem.W.fnOf "__eq__" "Word.__eq__" (defArgs s_Word___eq__) (defBody s_Word___eq__) (defScope s_Word___eq__) .none kV_Word___eq__ dc_Word___eq__ pm_Word___eq__ an_Word___eq__ cd_Word___eq__ ct_Word___eq__,
      F_Word___eq__ := (fun_mk (st := s_Word___eq__) h166 h167 h168),
      b_Word___eq__ := ((fun_mk (st := s_Word___eq__) h166 h167 h168).binds (ps := ["self", "other"]) fun _ _ _ _ _ _ us hl => match us, hl with | [_, _], _ => rfl),
      a_l_pair_right := f_l_pair_right,
      d_l_pair_right := PySem.W.fnOf "_law_pair_right" "_law_pair_right" (defArgs s_l_pair_right) (defBody s_l_pair_right) (defScope s_l_pair_right) .none kV_l_pair_right dc_l_pair_right pm_l_pair_right an_l_pair_right cd_l_pair_right ct_l_pair_right,
      F_l_pair_right := (fun_mk (st := s_l_pair_right) h170 h171 h172),
      b_l_pair_right := ((fun_mk (st := s_l_pair_right) h170 h171 h172).binds (ps := ["_law_jar_here", "_law_known", "_law_words_here", "_law_one", "_law_other"]) fun _ _ _ _ _ _ us hl => match us, hl with | [_, _, _, _, _], _ => rfl),
      g_l_pair_right := PySem.W.mg_of X G h169,
      a_law := f_law,
      d_law := PySem.W.fnOf "law" "law" (defArgs s_law) (defBody s_law) (defScope s_law) .none kV_law dc_law pm_law an_law cd_law ct_law,
      F_law := (fun_mk (st := s_law) h174 h175 h176),
      b_law := ((fun_mk (st := s_law) h174 h175 h176).binds (ps := ["_law_script"]) fun _ _ _ _ _ _ us hl => match us, hl with | [_], _ => rfl),
      g_law := PySem.W.mg_of X G h173,
      cls_Word := ⟨h177, h178, h179, h180⟩,
      mk_Word := ⟨h181, h63, h64, h182⟩,
      cls_NoRoot := ⟨h183, h184, h185, h186⟩,
      mk_NoRoot := ⟨h187, h93, h94, h188⟩,
      cls_Root := ⟨h189, h190, h191, h192⟩,
      mk_Root := ⟨h193, h100, h101, h194⟩,
      na_NoRoot_parts := h195,
      na_NoRoot_word := h196,
      na_Root_here := h197,
      na_Root_parts := h198,
      na_Root_root := h199,
      na_Root_there := h200,
      na_Root_word := h201,
      na_Word_is_short := h202,
      na_Word_is_short_round := h203,
      na_Word_kinds := h204,
      na_Word_length := h205,
      na_Word_letters := h206,
      me_Word_contrary := ⟨h150, h151, h154⟩,
      me_Word_then := ⟨h145, h146, h149⟩,
      me_Word_times := ⟨h159, h160, h163⟩,
      isc_Word := ⟨⟨h177, h178, h179, h180⟩, h207, h208, h209, h210, kit_self⟩,
      eq_Word := h164,
      eqf_Word := h165,
      ne_Word := h211,
      z_abs := PySem.W.mg_none_of X G h212,
      z_all := PySem.W.mg_none_of X G h213,
      z_bool := PySem.W.mg_none_of X G h214,
      z_enumerate := PySem.W.mg_none_of X G h215,
      z_int := PySem.W.mg_none_of X G h216,
      z_isinstance := PySem.W.mg_none_of X G h217,
      z_len := PySem.W.mg_none_of X G h218,
      z_list := PySem.W.mg_none_of X G h219,
      z_range := PySem.W.mg_none_of X G h220,
      z_repr := PySem.W.mg_none_of X G h221,
      z_sorted := PySem.W.mg_none_of X G h222,
      z_tuple := PySem.W.mg_none_of X G h223,
      z_zip := PySem.W.mg_none_of X G h224,
      ka_Word := h225,
      bo_NoRoot := h226,
      bof_NoRoot := h227,
      bo_Root := h228,
      bof_Root := h229,
      z_super := PySem.W.mg_none_of X G h230,
      kty_P := h231,
      kfn_P := h232,
      kany := h233,
      kmro_NoRoot := h234,
      ksup_NoRoot := h235,
      kmro_Root := h236,
      ksup_Root := h237,
      pfn := pfn,
      pfile := h238,
      psup := h239,
      c_LAST_KIND := ⟨_, PySem.W.mg_of X G h240⟩,
      c_MOST_LETTERS := ⟨_, PySem.W.mg_of X G h241⟩ }, kV_law, dc_law, pm_law, cd_law, ct_law, an_law, rfl⟩
def spLaw (K : PySem.W.Frag) : Sp := spP (acons (RList K RInt) anil) RBool (fun (y : List Int × Unit) Kf => m_law y.1 Kf)
theorem walkE {l : PySem.W.OpenLaw} {q : Program} {loose : List Str} {XP : (Str → Option Value) → Heap → Prop} {YP : World → Heap → Prop} {d : DefRec} {K : Params → PySem.W.Frag} (hn : l.most = some 63) (hdf : d.params.defaults = [])
    (hY : ∀ (w : World) (h : Heap), YP w h → (K w.params).In h) (hd : d.name = ("law" : Str))
    (F : ∀ (w : World) (mg : Str → Option Value) (h : Heap), (K w.params).In h → h.Ns mainGlobals mg → ∃ (T : Tx l.prog (K w.params) mg) (kV dc pm cd ct : Value) (an : Option Addr), T.d_law = PySem.W.fnOf "law" "law" (defArgs s_law) (defBody s_law) (defScope s_law) .none kV dc pm an cd ct) :
    PySem.W.WalkO q loose XP YP l.row.toRowW d [] (fun f vs => PySem.call f vs) :=
  L2.walk_ofB (n := 63) (k := 10) (x := "_law_script") (CX := fun _ => CX0) (sp := fun w => spLaw (K w.params)) hn (by decide) hdf ⟨rfl, by decide, by decide⟩ hY
    (fun w mg fa h KX G hmg => by
      obtain ⟨T, kV, dc, pm, cd, ct, an, e⟩ := F w mg h KX G
      have e1 : some (Value.ref fa) = some (.ref T.a_law) := by rw [← hmg, hd, T.g_law]
      cases e1
      exact ⟨T.d_law, fun s v => by rw [e]; exact .of_eq rfl, fun base _ _ => ok_law T⟩)
    (fun w H a ns hl _ _ hS => ⟨(ns, ()), H, fun r => r = true, ⟨⟨a, _, rfl, hS, AllR.ints.mpr rfl⟩, trivial⟩, Same.refl H, law_true hl, fun r v F' H' hr hv _ _ _ _ => by rw [show v = V.bl r from hv, hr]⟩)
    fun _ _ _ _ _ z => z

end G
open PySem PySem.W PyProof.Rows in
set_option maxRecDepth 100000 in
set_option maxHeartbeats 0 in
theorem PySem.Challenge.cw_handlerims_k08_whole_words_go_past_one_a_holds : PySem.Challenge.rw_handlerims_k08_whole_words_go_past_one_a.Holds := by
  w_on; o_law; k_head; (case hw => w_witness2)
  k_fill
  refine G.walkE (l := PySem.Challenge.rw_handlerims_k08_whole_words_go_past_one_a) rfl rfl (fun w h Y => by first | exact PySem.W.km_in_of Y | exact PySem.W.kIn_of Y) rfl ?F
  case F =>
    intro w mg h KX GN
    refine' G.mk_T KX GN ?h0 ?h1 ?h2 ?h3 ?h4 ?h5 ?h6 ?h7 ?h8 ?h9 ?h10 ?h11 ?h12 ?h13 ?h14 ?h15 ?h16 ?h17 ?h18 ?h19 ?h20 ?h21 ?h22 ?h23 ?h24 ?h25 ?h26 ?h27 ?h28 ?h29 ?h30 ?h31 ?h32 ?h33 ?h34 ?h35 ?h36 ?h37 ?h38 ?h39 ?h40 ?h41 ?h42 ?h43 ?h44 ?h45 ?h46 ?h47 ?h48 ?h49 ?h50 ?h51 ?h52 ?h53 ?h54 ?h55 ?h56 ?h57 ?h58 ?h59 ?h60 ?h61 ?h62 ?h63 ?h64 ?h65 ?h66 ?h67 ?h68 ?h69 ?h70 ?h71 ?h72 ?h73 ?h74 ?h75 ?h76 ?h77 ?h78 ?h79 ?h80 ?h81 ?h82 ?h83 ?h84 ?h85 ?h86 ?h87 ?h88 ?h89 ?h90 ?h91 ?h92 ?h93 ?h94 ?h95 ?h96 ?h97 ?h98 ?h99 ?h100 ?h101 ?h102 ?h103 ?h104 ?h105 ?h106 ?h107 ?h108 ?h109 ?h110 ?h111 ?h112 ?h113 ?h114 ?h115 ?h116 ?h117 ?h118 ?h119 ?h120 ?h121 ?h122 ?h123 ?h124 ?h125 ?h126 ?h127 ?h128 ?h129 ?h130 ?h131 ?h132 ?h133 ?h134 ?h135 ?h136 ?h137 ?h138 ?h139 ?h140 ?h141 ?h142 ?h143 ?h144 ?h145 ?h146 ?h147 ?h148 ?h149 ?h150 ?h151 ?h152 ?h153 ?h154 ?h155 ?h156 ?h157 ?h158 ?h159 ?h160 ?h161 ?h162 ?h163 ?h164 ?h165 ?h166 ?h167 ?h168 ?h169 ?h170 ?h171 ?h172 ?h173 ?h174 ?h175 ?h176 ?h177 ?h178 ?h179 ?h180 ?h181 ?h182 ?h183 ?h184 ?h185 ?h186 ?h187 ?h188 ?h189 ?h190 ?h191 ?h192 ?h193 ?h194 ?h195 ?h196 ?h197 ?h198 ?h199 ?h200 ?h201 ?h202 ?h203 ?h204 ?h205 ?h206 ?h207 ?h208 ?h209 ?h210 ?h211 ?h212 ?h213 ?h214 ?h215 ?h216 ?h217 ?h218 ?h219 ?h220 ?h221 ?h222 ?h223 ?h224 ?h225 ?h226 ?h227 ?h228 ?h229 ?h230 ?h231 ?h232 ?h233 ?h234 ?h235 ?h236 ?h237 ?h238 ?h239 ?h240 ?h241
    (case h0 => k_is)
    (case h1 => k_is)
    (case h2 => k_is)
    (case h3 => k_is)
    (case h4 => k_is)
    (case h5 => k_is)
    (case h6 => k_is)
    (case h7 => k_is)
    (case h8 => k_is)
    (case h9 => k_is)
    (case h10 => k_is)
    (case h11 => k_is)
    (case h12 => k_is)
    (case h13 => k_is)
    (case h14 => k_is)
    (case h15 => k_is)
    (case h16 => k_is)
    (case h17 => k_is)
    (case h18 => k_is)
    (case h19 => k_is)
    (case h20 => k_is)
    (case h21 => k_is)
    (case h22 => k_is)
    (case h23 => k_is)
    (case h24 => k_is)
    (case h25 => k_is)
    (case h26 => k_is)
    (case h27 => k_is)
    (case h28 => k_is)
    (case h29 => k_is)
    (case h30 => k_is)
    (case h31 => k_is)
    (case h32 => k_is)
    (case h33 => k_is)
    (case h34 => k_is)
    (case h35 => k_is)
    (case h36 => k_is)
    (case h37 => k_is)
    (case h38 => k_is)
    (case h39 => k_is)
    (case h40 => k_is)
    (case h41 => k_is)
    (case h42 => k_is)
    (case h43 => k_is)
    (case h44 => k_is)
    (case h45 => k_is)
    (case h46 => k_is)
    (case h47 => k_is)
    (case h48 => k_is)
    (case h49 => k_is)
    (case h50 => k_is)
    (case h51 => k_is)
    (case h52 => k_is)
    (case h53 => k_is)
    (case h54 => k_is)
    (case h55 => k_is)
    (case h56 => k_is)
    (case h57 => k_is)
    (case h58 => k_is)
    (case h59 => k_is)
    (case h60 => k_is)
    (case h61 => k_is)
    (case h62 => k_is)
    (case h63 => k_is)
    (case h64 => k_is)
    (case h65 => k_is)
    (case h66 => k_is)
    (case h67 => k_is)
    (case h68 => k_is)
    (case h69 => k_is)
    (case h70 => k_is)
    (case h71 => k_is)
    (case h72 => k_is)
    (case h73 => k_is)
    (case h74 => k_is)
    (case h75 => k_is)
    (case h76 => k_is)
    (case h77 => k_is)
    (case h78 => k_is)
    (case h79 => k_is)
    (case h80 => k_is)
    (case h81 => k_is)
    (case h82 => k_is)
    (case h83 => k_is)
    (case h84 => k_is)
    (case h85 => k_is)
    (case h86 => k_is)
    (case h87 => k_is)
    (case h88 => ks_is)
    (case h89 => k_is)
    (case h90 => k_is)
    (case h91 => k_is)
    (case h92 => k_is)
    (case h93 => k_is)
    (case h94 => k_is)
    (case h95 => k_is)
    (case h96 => k_is)
    (case h97 => k_is)
    (case h98 => first | k_is | rfl)
    (case h99 => k_is)
    (case h100 => k_is)
    (case h101 => k_is)
    (case h102 => k_is)
    (case h103 => k_is)
    (case h104 => k_is)
    (case h105 => first | k_is | rfl)
    (case h106 => k_is)
    (case h107 => k_is)
    (case h108 => k_is)
    (case h109 => k_is)
    (case h110 => k_is)
    (case h111 => k_is)
    (case h112 => k_is)
    (case h113 => k_is)
    (case h114 => k_is)
    (case h115 => k_is)
    (case h116 => k_is)
    (case h117 => k_is)
    (case h118 => k_is)
    (case h119 => k_is)
    (case h120 => k_is)
    (case h121 => k_is)
    (case h122 => k_is)
    (case h123 => k_is)
    (case h124 => k_is)
    (case h125 => k_is)
    (case h126 => k_is)
    (case h127 => k_is)
    (case h128 => k_is)
    (case h129 => k_is)
    (case h130 => k_is)
    (case h131 => k_is)
    (case h132 => k_is)
    (case h133 => k_is)
    (case h134 => k_is)
    (case h135 => k_is)
    (case h136 => k_is)
    (case h137 => k_is)
    (case h138 => k_is)
    (case h139 => k_is)
    (case h140 => k_is)
    (case h141 => k_is)
    (case h142 => k_is)
    (case h143 => k_is)
    (case h144 => k_is)
    (case h145 => k_is)
    (case h146 => k_is)
    (case h147 => k_is)
    (case h148 => k_is)
    (case h149 => k_is)
    (case h150 => k_is)
    (case h151 => k_is)
    (case h152 => k_is)
    (case h153 => k_is)
    (case h154 => k_is)
    (case h155 => k_is)
    (case h156 => k_is)
    (case h157 => k_is)
    (case h158 => k_is)
    (case h159 => k_is)
    (case h160 => k_is)
    (case h161 => k_is)
    (case h162 => k_is)
    (case h163 => k_is)
    (case h164 => k_is)
    (case h165 => k_is)
    (case h166 => k_is)
    (case h167 => k_is)
    (case h168 => k_is)
    (case h169 => k_is)
    (case h170 => k_is)
    (case h171 => k_is)
    (case h172 => k_is)
    (case h173 => k_is)
    (case h174 => k_is)
    (case h175 => k_is)
    (case h176 => k_is)
    (case h177 => k_is)
    (case h178 => k_is)
    (case h179 => k_is)
    (case h180 => k_is)
    (case h181 => k_is)
    (case h182 => k_is)
    (case h183 => k_is)
    (case h184 => k_is)
    (case h185 => k_is)
    (case h186 => k_is)
    (case h187 => k_is)
    (case h188 => k_is)
    (case h189 => k_is)
    (case h190 => k_is)
    (case h191 => k_is)
    (case h192 => k_is)
    (case h193 => k_is)
    (case h194 => k_is)
    (case h195 => k_is)
    (case h196 => k_is)
    (case h197 => k_is)
    (case h198 => k_is)
    (case h199 => k_is)
    (case h200 => k_is)
    (case h201 => k_is)
    (case h202 => k_is)
    (case h203 => k_is)
    (case h204 => k_is)
    (case h205 => k_is)
    (case h206 => k_is)
    (case h207 => k_is)
    (case h208 => k_is)
    (case h209 => k_is)
    (case h210 => k_is)
    (case h211 => k_is)
    (case h212 => k_is)
    (case h213 => k_is)
    (case h214 => k_is)
    (case h215 => k_is)
    (case h216 => k_is)
    (case h217 => k_is)
    (case h218 => k_is)
    (case h219 => k_is)
    (case h220 => k_is)
    (case h221 => k_is)
    (case h222 => k_is)
    (case h223 => k_is)
    (case h224 => k_is)
    (case h225 => kit_is)
    (case h226 => k_is)
    (case h227 => k_is)
    (case h228 => k_is)
    (case h229 => k_is)
    (case h230 => k_is)
    (case h231 => k_is)
    (case h232 => k_is)
    (case h233 => k_is)
    (case h234 => k_is)
    (case h235 => ks_is)
    (case h236 => k_is)
    (case h237 => ks_is)
    (case h238 => first | rfl | decide +kernel)
    (case h239 => first | rfl | decide +kernel)
    (case h240 => k_is)
    (case h241 => k_is)
