import PyProof.Rows.All
import Wide.All
import OpenK.AllK
import Wide.FinOn
import PyProof.EqAt
import PyProof.EqKinds
import PyProof.TupleCall
import HandS.ForMost
import HandS.Exc
import HandS.TryOnly
import HandS.ExcOwn
import HandS.WordsExc
import HandS.Defaults
import HandS.CallSlots
import HandS.IsInst
import HandS.Style
import HandS.HeadHook1
import HandS.HeadHook2
import HandS.Wide
import KE.KStateDown
import Lean
import HandS.Head0
import HandS.Head1
import HandS.Head2
import HandS.HeadEnd
import PySem.Challenge.RW_squaremark_k18_whole_sums_and_products
set_option Elab.async false
set_option linter.all false
set_option maxRecDepth 100000
set_option maxHeartbeats 4000000
section
/-! Mn: pure trees over the hand layer: a tree D for a value, what is owned (may be changed), the state, what a reading in trees is. -/
namespace Mn
open PySem PySem.Spec PyProof.Rows L2

/-- a value as a tree -/
inductive D where
  | non | bl (b : Bool) | int (i : Int) | str (x : List Nat) | tup (xs : List D) | lst (xs : List D)
  deriving Inhabited

mutual
def D.beq : D → D → Bool
  | .non, .non => true
  | .bl a, .bl b => a == b
  | .int i, .int j => decide (i = j)
  | .str x, .str y => decide (x = y)
  | .tup x, .tup y => D.beqs x y
  | .lst x, .lst y => D.beqs x y
  | _, _ => false
def D.beqs : List D → List D → Bool
  | [], [] => true
  | x :: xs, y :: ys => D.beq x y && D.beqs xs ys
  | _, _ => false
end
mutual
theorem D.beq_eq : ∀ (d e : D), D.beq d e = true → d = e
  | .non, e, h => by cases e <;> first | rfl | cases h
  | .bl a, e, h => by
    cases e with
    | bl b => rw [show a = b from eq_of_beq h]
    | _ => cases h
  | .int a, e, h => by
    cases e with
    | int b => rw [show a = b from of_decide_eq_true h]
    | _ => cases h
  | .str a, e, h => by
    cases e with
    | str b => rw [show a = b from of_decide_eq_true h]
    | _ => cases h
  | .tup a, e, h => by
    cases e with
    | tup b => rw [D.beqs_eq a b h]
    | _ => cases h
  | .lst a, e, h => by
    cases e with
    | lst b => rw [D.beqs_eq a b h]
    | _ => cases h
theorem D.beqs_eq : ∀ (d e : List D), D.beqs d e = true → d = e
  | [], e, h => by cases e <;> first | rfl | cases h
  | x :: xs, e, h => by
    cases e with
    | nil => cases h
    | cons y ys =>
      have h2 := Bool.and_eq_true_iff.mp h
      rw [D.beq_eq x y h2.1, D.beqs_eq xs ys h2.2]
end
mutual
theorem D.beq_rfl : ∀ (d : D), D.beq d d = true
  | .non => rfl
  | .bl a => beq_self_eq_true a
  | .int a => decide_eq_true rfl
  | .str a => decide_eq_true rfl
  | .tup a => D.beqs_rfl a
  | .lst a => D.beqs_rfl a
theorem D.beqs_rfl : ∀ (d : List D), D.beqs d d = true
  | [] => rfl
  | x :: xs => Bool.and_eq_true_iff.mpr ⟨D.beq_rfl x, D.beqs_rfl xs⟩
end
instance : DecidableEq D := fun d e => if h : D.beq d e = true then .isTrue (D.beq_eq d e h) else .isFalse fun q => h (by rw [q]; exact D.beq_rfl e)

/-- how far a value is owned: not at all; its root, and its items as told -/
inductive Kd where
  | z | s (k : Kd)
  deriving DecidableEq, Inhabited

abbrev Frag := PySem.W.Frag
abbrev Sg := L2.St

mutual
def Rep (K : Frag) (F : Hp) : D → V → Prop
  | .non, v => v = .non
  | .bl b, v => v = .bl b
  | .int i, v => v = .int i
  | .str x, v => v = .str ⟨x.toArray⟩
  | .tup ds, v => ∃ a vs, v = .ref a ∧ SqT K F a vs ∧ Reps K F ds vs
  | .lst ds, v => ∃ a vs, v = .ref a ∧ SqL K F a vs ∧ Reps K F ds vs
def Reps (K : Frag) (F : Hp) : List D → List V → Prop
  | [], vs => vs = []
  | d :: ds, vs => ∃ v r, vs = v :: r ∧ Rep K F d v ∧ Reps K F ds r
end

def Ex (H H' : Hp) : Prop := ∀ a o, H a = some o → H' a = some o
theorem Ex.refl (H : Hp) : Ex H H := fun _ _ h => h
theorem Ex.trans {H H1 H2 : Hp} (a : Ex H H1) (b : Ex H1 H2) : Ex H H2 := fun x o h => b x o (a x o h)
theorem Ex.new {H : Hp} {p : Addr} {o : HO} (h : H p = none) : Ex H (upd H p o) := fun a u e => by
  rw [upd_ne (ne_of_none e h)]
  exact e
theorem ex_rd {H H' : Hp} {a : Addr} {u : HO} (e : Ex H H') (h : Rd H a u) : Rd H' a u := by
  rcases h with h | ⟨o, h⟩
  · exact Or.inl (e a _ h)
  · exact Or.inr ⟨o, e a _ h⟩
theorem ex_l {K : Frag} {H H' : Hp} {a : Addr} {xs : List V} (e : Ex H H') (h : SqL K H a xs) : SqL K H' a xs := by
  rcases h with h | h
  · exact Or.inl (ex_rd e h)
  · exact Or.inr h
theorem ex_t {K : Frag} {H H' : Hp} {a : Addr} {xs : List V} (e : Ex H H') (h : SqT K H a xs) : SqT K H' a xs := by
  rcases h with h | h
  · exact Or.inl (ex_rd e h)
  · exact Or.inr h

mutual
theorem Rep.ex {K : Frag} {F F' : Hp} (e : Ex F F') : ∀ {d : D} {v : V}, Rep K F d v → Rep K F' d v
  | .non, _, h => h
  | .bl _, _, h => h
  | .int _, _, h => h
  | .str _, _, h => h
  | .tup _, _, h => by
    obtain ⟨a, vs, e1, h1, h2⟩ := h
    exact ⟨a, vs, e1, ex_t e h1, Reps.ex e h2⟩
  | .lst _, _, h => by
    obtain ⟨a, vs, e1, h1, h2⟩ := h
    exact ⟨a, vs, e1, ex_l e h1, Reps.ex e h2⟩
theorem Reps.ex {K : Frag} {F F' : Hp} (e : Ex F F') : ∀ {ds : List D} {vs : List V}, Reps K F ds vs → Reps K F' ds vs
  | [], _, h => h
  | _ :: _, _, h => by
    obtain ⟨v, r, e1, h1, h2⟩ := h
    exact ⟨v, r, e1, Rep.ex e h1, Reps.ex e h2⟩
end

theorem Reps.length {K : Frag} {F : Hp} : ∀ {ds : List D} {vs : List V}, Reps K F ds vs → vs.length = ds.length
  | [], _, h => by
    have e : _ = [] := h
    rw [e]
    rfl
  | _ :: _, _, h => by
    obtain ⟨v, r, e1, h1, h2⟩ := h
    rw [e1, List.length_cons, List.length_cons, Reps.length h2]
theorem Reps.get {K : Frag} {F : Hp} : ∀ {ds : List D} {vs : List V} {i : Nat} {d : D}, Reps K F ds vs → ds[i]? = some d → ∃ v, vs[i]? = some v ∧ Rep K F d v
  | [], _, _, _, _, e => by simp at e
  | _ :: _, _, 0, d, h, e => by
    obtain ⟨v, r, e1, h1, h2⟩ := h
    subst e1
    simp at e
    subst e
    exact ⟨v, rfl, h1⟩
  | _ :: _, _, i + 1, d, h, e => by
    obtain ⟨v, r, e1, h1, h2⟩ := h
    subst e1
    obtain ⟨u, q1, q2⟩ := Reps.get (i := i) (d := d) h2 (by simpa using e)
    exact ⟨u, by simpa using q1, q2⟩
theorem Reps.append {K : Frag} {F : Hp} : ∀ {ds es : List D} {vs us : List V}, Reps K F ds vs → Reps K F es us → Reps K F (ds ++ es) (vs ++ us)
  | [], _, _, _, h, q => by
    have e : _ = [] := h
    rw [e]
    exact q
  | _ :: _, _, _, _, h, q => by
    obtain ⟨v, r, e1, h1, h2⟩ := h
    subst e1
    exact ⟨v, _, rfl, h1, Reps.append h2 q⟩
theorem Reps.cons {K : Frag} {F : Hp} {d : D} {ds : List D} {v : V} {vs : List V} (h : Rep K F d v) (q : Reps K F ds vs) : Reps K F (d :: ds) (v :: vs) := ⟨v, vs, rfl, h, q⟩
theorem Reps.nil {K : Frag} {F : Hp} : Reps K F [] [] := rfl
theorem Reps.set {K : Frag} {F : Hp} {d : D} {v : V} (q : Rep K F d v) : ∀ {ds : List D} {vs : List V} (i : Nat), Reps K F ds vs → Reps K F (ds.set i d) (vs.set i v)
  | [], _, _, h => by
    have e : _ = [] := h
    rw [e]
    exact Reps.nil
  | _ :: _, _, 0, h => by
    obtain ⟨u, r, e1, h1, h2⟩ := h
    subst e1
    exact Reps.cons q h2
  | _ :: _, _, i + 1, h => by
    obtain ⟨u, r, e1, h1, h2⟩ := h
    subst e1
    exact Reps.cons h1 (Reps.set q i h2)
theorem Reps.take {K : Frag} {F : Hp} : ∀ {ds : List D} {vs : List V} (n : Nat), Reps K F ds vs → Reps K F (ds.take n) (vs.take n)
  | [], _, n, h => by
    have e : _ = [] := h
    subst e
    cases n <;> exact Reps.nil
  | _ :: _, _, 0, _ => Reps.nil
  | _ :: _, _, n + 1, h => by
    obtain ⟨u, r, e1, h1, h2⟩ := h
    subst e1
    exact Reps.cons h1 (Reps.take n h2)
theorem Reps.drop {K : Frag} {F : Hp} : ∀ {ds : List D} {vs : List V} (n : Nat), Reps K F ds vs → Reps K F (ds.drop n) (vs.drop n)
  | [], _, n, h => by
    have e : _ = [] := h
    subst e
    cases n <;> exact Reps.nil
  | _ :: _, _, 0, h => h
  | _ :: _, _, n + 1, h => by
    obtain ⟨u, r, e1, h1, h2⟩ := h
    subst e1
    exact Reps.drop n h2

/-! ### what is owned -/
def mask (H : Hp) (S : List Addr) : Hp := fun a => if a ∈ S then none else H a
theorem mask_some {H : Hp} {S : List Addr} {a : Addr} {o : HO} : mask H S a = some o ↔ a ∉ S ∧ H a = some o := by
  unfold mask
  split
  · rename_i h
    constructor
    · intro e
      cases e
    · intro e
      exact absurd h e.1
  · rename_i h
    constructor
    · intro e
      exact ⟨h, e⟩
    · intro e
      exact e.2
theorem mask_ex {H : Hp} {S : List Addr} : Ex (mask H S) H := fun a o e => (mask_some.mp e).2
theorem mask_mono {H H' : Hp} {S S' : List Addr} (h : ∀ a o, a ∉ S → H a = some o → a ∉ S' ∧ H' a = some o) : Ex (mask H S) (mask H' S') := fun a o e => by
  obtain ⟨h1, h2⟩ := mask_some.mp e
  exact mask_some.mpr (h a o h1 h2)
theorem mask_nil {H : Hp} : mask H [] = H := by
  funext a
  unfold mask
  simp

section
variable (K : Frag) (F H : Hp)
/-- owned items, each with its own addresses -/
def OwnsF (f : D → V → List Addr → Prop) : List D → List V → List Addr → Prop
  | [], vs, S => vs = [] ∧ S = []
  | d :: ds, vs, S => ∃ v r S1 S2, vs = v :: r ∧ S = S1 ++ S2 ∧ f d v S1 ∧ OwnsF f ds r S2
def Own : Kd → D → V → List Addr → Prop
  | .z, d, v, S => S = [] ∧ Rep K F d v
  | .s k, .lst ds, v, S => ∃ a vs S1, v = .ref a ∧ H a = some (.lst vs) ∧ S = a :: S1 ∧ OwnsF (Own k) ds vs S1
  | .s k, .tup ds, v, S => ∃ a vs, v = .ref a ∧ SqT K F a vs ∧ OwnsF (Own k) ds vs S
  | .s _, d, v, S => S = [] ∧ Rep K F d v
end
/-- the slots (temporaries ahead): none: nothing is known -/
def Sls (f : Kd → D → V → List Addr → Prop) : List (Option V) → List (Option (D × Kd)) → List Addr → Prop
  | [], [], S => S = []
  | _ :: σ, none :: μ, S => Sls f σ μ S
  | x :: σ, some (d, k) :: μ, S => ∃ v S1 S2, x = some v ∧ S = S1 ++ S2 ∧ f k d v S1 ∧ Sls f σ μ S2
  | _, _, _ => False

theorem OwnsF.mono {f g : D → V → List Addr → Prop} : ∀ {ds : List D} {vs : List V} {S : List Addr}, (∀ d v S1, (∀ a ∈ S1, a ∈ S) → f d v S1 → g d v S1) → OwnsF f ds vs S → OwnsF g ds vs S
  | [], _, _, _, h => h
  | d :: ds, _, _, m, h => by
    obtain ⟨v, r, S1, S2, e1, e2, h1, h2⟩ := h
    subst e2
    exact ⟨v, r, S1, S2, e1, rfl, m _ _ _ (fun a ha => List.mem_append_left _ ha) h1, OwnsF.mono (fun d v S q => m d v S fun a ha => List.mem_append_right _ (q a ha)) h2⟩
theorem Own.mono {K : Frag} {F F' H H' : Hp} (e : Ex F F') : ∀ {k : Kd} {d : D} {v : V} {S : List Addr}, (∀ a ∈ S, H' a = H a) → Own K F H k d v S → Own K F' H' k d v S
  | .z, _, _, _, _, h => ⟨h.1, h.2.ex e⟩
  | .s k, .lst _, _, _, m, h => by
    obtain ⟨a, vs, S1, e1, e2, e3, h1⟩ := h
    subst e3
    refine ⟨a, vs, S1, e1, (m a List.mem_cons_self).trans e2, rfl, OwnsF.mono (fun d v S2 q => Own.mono e fun b hb => m b (List.mem_cons_of_mem _ (q b hb))) h1⟩
  | .s k, .tup _, _, _, m, h => by
    obtain ⟨a, vs, e1, e2, h1⟩ := h
    exact ⟨a, vs, e1, ex_t e e2, OwnsF.mono (fun d v S2 q => Own.mono e fun b hb => m b (q b hb)) h1⟩
  | .s k, .non, _, _, _, h => ⟨h.1, h.2.ex e⟩
  | .s k, .bl _, _, _, _, h => ⟨h.1, h.2.ex e⟩
  | .s k, .int _, _, _, _, h => ⟨h.1, h.2.ex e⟩
  | .s k, .str _, _, _, _, h => ⟨h.1, h.2.ex e⟩
theorem Sls.mono {f g : Kd → D → V → List Addr → Prop} : ∀ {σ : List (Option V)} {μ : List (Option (D × Kd))} {S : List Addr}, (∀ k d v S1, (∀ a ∈ S1, a ∈ S) → f k d v S1 → g k d v S1) → Sls f σ μ S → Sls g σ μ S
  | [], [], _, _, h => h
  | _ :: σ, none :: μ, _, m, h => Sls.mono (σ := σ) (μ := μ) m h
  | _ :: _, some (d, k) :: _, _, m, h => by
    obtain ⟨v, S1, S2, e1, e2, h1, h2⟩ := h
    subst e2
    exact ⟨v, S1, S2, e1, rfl, m _ _ _ _ (fun a ha => List.mem_append_left _ ha) h1, Sls.mono (fun k d v S q => m k d v S fun a ha => List.mem_append_right _ (q a ha)) h2⟩
  | [], _ :: _, _, _, h => h.elim
  | _ :: _, [], _, _, h => h.elim

theorem OwnsF.reps {K : Frag} {F F' : Hp} {f : D → V → List Addr → Prop} : ∀ {ds : List D} {vs : List V} {S : List Addr}, (∀ d v S1, (∀ a ∈ S1, a ∈ S) → f d v S1 → Rep K F' d v) → OwnsF f ds vs S → Reps K F' ds vs
  | [], _, _, _, h => h.1
  | d :: ds, _, _, m, h => by
    obtain ⟨v, r, S1, S2, e1, e2, h1, h2⟩ := h
    subst e1
    subst e2
    exact Reps.cons (m _ _ _ (fun a ha => List.mem_append_left _ ha) h1) (OwnsF.reps (F := F) (fun d v S q => m d v S fun a ha => List.mem_append_right _ (q a ha)) h2)
/-- what is owned, frozen -/
theorem Own.rep {K : Frag} {F F' H : Hp} (e : Ex F F') : ∀ {k : Kd} {d : D} {v : V} {S : List Addr}, (∀ a ∈ S, ∀ o, H a = some o → F' a = some o) → Own K F H k d v S → Rep K F' d v
  | .z, _, _, _, _, h => h.2.ex e
  | .s k, .lst _, _, _, m, h => by
    obtain ⟨a, vs, S1, e1, e2, e3, h1⟩ := h
    subst e3
    exact ⟨a, vs, e1, SqL.of (m a List.mem_cons_self _ e2), OwnsF.reps (F := F) (fun d v S2 q => Own.rep e fun b hb => m b (List.mem_cons_of_mem _ (q b hb))) h1⟩
  | .s k, .tup _, _, _, m, h => by
    obtain ⟨a, vs, e1, e2, h1⟩ := h
    exact ⟨a, vs, e1, ex_t e e2, OwnsF.reps (F := F) (fun d v S2 q => Own.rep e fun b hb => m b (q b hb)) h1⟩
  | .s k, .non, _, _, _, h => h.2.ex e
  | .s k, .bl _, _, _, _, h => h.2.ex e
  | .s k, .int _, _, _, _, h => h.2.ex e
  | .s k, .str _, _, _, _, h => h.2.ex e
theorem OwnsF.tracked {H : Hp} {f : D → V → List Addr → Prop} : ∀ {ds : List D} {vs : List V} {S : List Addr}, (∀ d v S1, f d v S1 → ∀ a ∈ S1, H a ≠ none) → OwnsF f ds vs S → ∀ a ∈ S, H a ≠ none
  | [], _, _, _, h, a, ha => by
    rw [h.2] at ha
    cases ha
  | d :: ds, _, _, m, h, a, ha => by
    obtain ⟨v, r, S1, S2, e1, e2, h1, h2⟩ := h
    subst e2
    rcases List.mem_append.mp ha with ha | ha
    · exact m _ _ _ h1 a ha
    · exact OwnsF.tracked m h2 a ha
theorem Own.tracked {K : Frag} {F H : Hp} : ∀ {k : Kd} {d : D} {v : V} {S : List Addr}, Own K F H k d v S → ∀ a ∈ S, H a ≠ none
  | .z, _, _, _, h, a, ha => by
    rw [h.1] at ha
    cases ha
  | .s k, .lst _, _, _, h, a, ha => by
    obtain ⟨b, vs, S1, e1, e2, e3, h1⟩ := h
    subst e3
    rcases List.mem_cons.mp ha with ha | ha
    · rw [ha, e2]
      exact fun z => nomatch z
    · exact OwnsF.tracked (fun d v S1 q => Own.tracked q) h1 a ha
  | .s k, .tup _, _, _, h, a, ha => by
    obtain ⟨b, vs, e1, e2, h1⟩ := h
    exact OwnsF.tracked (fun d v S1 q => Own.tracked q) h1 a ha
  | .s k, .non, _, _, h, a, ha => by
    rw [h.1] at ha
    cases ha
  | .s k, .bl _, _, _, h, a, ha => by
    rw [h.1] at ha
    cases ha
  | .s k, .int _, _, _, h, a, ha => by
    rw [h.1] at ha
    cases ha
  | .s k, .str _, _, _, h, a, ha => by
    rw [h.1] at ha
    cases ha
theorem Sls.tracked {H : Hp} {f : Kd → D → V → List Addr → Prop} : ∀ {σ : List (Option V)} {μ : List (Option (D × Kd))} {S : List Addr}, (∀ k d v S1, f k d v S1 → ∀ a ∈ S1, H a ≠ none) → Sls f σ μ S → ∀ a ∈ S, H a ≠ none
  | [], [], _, _, h, a, ha => by
    have e : _ = [] := h
    rw [e] at ha
    cases ha
  | _ :: σ, none :: μ, _, m, h, a, ha => Sls.tracked (σ := σ) (μ := μ) m h a ha
  | _ :: _, some (d, k) :: _, _, m, h, a, ha => by
    obtain ⟨v, S1, S2, e1, e2, h1, h2⟩ := h
    subst e2
    rcases List.mem_append.mp ha with ha | ha
    · exact m _ _ _ _ h1 a ha
    · exact Sls.tracked m h2 a ha
  | [], _ :: _, _, _, h, _, _ => h.elim
  | _ :: _, [], _, _, h, _, _ => h.elim

/-! ### the state -/
abbrev M := List (Option (D × Kd))
abbrev own (K : Frag) (S : List Addr) (H : Hp) : Kd → D → V → List Addr → Prop := Own K (mask H S) H
/-- S0: kept for the callers; S: owned by the slots (and temporaries ahead of them) -/
structure R (K : Frag) (S0 S : List Addr) (H : Hp) (σ : List (Option V)) (μ : M) : Prop where
  t0 : ∀ a ∈ S0, H a ≠ none
  dis : ∀ a ∈ S, a ∉ S0
  nd : S.Nodup
  sl : Sls (own K (S0 ++ S) H) σ μ S
theorem R.tr {K : Frag} {S0 S : List Addr} {H : Hp} {σ : List (Option V)} {μ : M} (r : R K S0 S H σ μ) : ∀ a ∈ S0 ++ S, H a ≠ none := fun a ha => by
  rcases List.mem_append.mp ha with ha | ha
  · exact r.t0 a ha
  · exact Sls.tracked (fun k d v S1 q => Own.tracked q) r.sl a ha

/-- the heap goes on: what is not owned stays; what is owned then was owned or is new -/
structure Gr (S : List Addr) (H : Hp) (S' : List Addr) (H' : Hp) : Prop where
  keep : ∀ a o, H a = some o → a ∉ S → H' a = some o
  new : ∀ a ∈ S', a ∈ S ∨ H a = none
theorem Gr.refl {S : List Addr} {H : Hp} : Gr S H S H := ⟨fun _ _ h _ => h, fun _ h => .inl h⟩
theorem Gr.trans {S S1 S2 : List Addr} {H H1 H2 : Hp} (g : Gr S H S1 H1) (h : Gr S1 H1 S2 H2) : Gr S H S2 H2 where
  keep := fun a o e n => h.keep a o (g.keep a o e n) fun z => by
    rcases g.new a z with z | z
    · exact n z
    · rw [e] at z
      cases z
  new := fun a ha => by
    rcases h.new a ha with z | z
    · exact g.new a z
    · cases e : H a with
      | none => exact .inr rfl
      | some o =>
        refine .inl (Classical.byContradiction fun n => ?_)
        rw [g.keep a o e n] at z
        cases z
theorem Gr.ex {S : List Addr} {H H' : Hp} (e : Ex H H') : Gr S H S H' := ⟨fun a o h _ => e a o h, fun _ h => .inl h⟩
theorem Gr.mask {S0 S S' : List Addr} {H H' : Hp} (g : Gr S H S' H') : Ex (mask H (S0 ++ S)) (mask H' (S0 ++ S')) := mask_mono fun a o n e => by
  have n0 : a ∉ S0 := fun z => n (List.mem_append_left _ z)
  have n1 : a ∉ S := fun z => n (List.mem_append_right _ z)
  refine ⟨fun z => ?_, g.keep a o e n1⟩
  rcases List.mem_append.mp z with z | z
  · exact n0 z
  · rcases g.new a z with z | z
    · exact n1 z
    · rw [e] at z
      cases z
/-- the state bears a heap that only grows -/
theorem R.ex {K : Frag} {S0 S : List Addr} {H H' : Hp} {σ : List (Option V)} {μ : M} (r : R K S0 S H σ μ) (e : Ex H H') : R K S0 S H' σ μ where
  t0 := fun a ha z => by
    cases q : H a with
    | none => exact r.t0 a ha q
    | some o =>
      rw [e a o q] at z
      cases z
  dis := r.dis
  nd := r.nd
  sl := Sls.mono (fun k d v S1 q => Own.mono (Gr.mask (Gr.ex e)) fun a ha => by
    have t := r.tr a (List.mem_append_right _ (q a ha))
    cases q : H a with
    | none => exact absurd q t
    | some o => rw [e a o q]) r.sl

/-! ### what comes of a piece of code -/
/-- an exception: its class's name, its fields -/
structure Exn where
  cls : Str
  fs : List (Str × D) := []
  deriving DecidableEq
inductive Res (α : Type) where
  | ok (a : α) | exn (e : Exn)
  deriving DecidableEq
abbrev EV (α : Type) := M → Option (Res α × M)
def Rs {α β : Type} (r : Option (Res α × M)) (f : α → M → Option (Res β × M)) : Option (Res β × M) := match r with
  | none => none
  | some (.exn e, μ') => some (.exn e, μ')
  | some (.ok x, μ') => f x μ'
theorem Rs_none {α β : Type} {f : α → M → Option (Res β × M)} : Rs none f = none := rfl
theorem Rs_exn {α β : Type} {f : α → M → Option (Res β × M)} {e : Exn} {μ : M} : Rs (some (.exn e, μ)) f = some (.exn e, μ) := rfl
theorem Rs_ok {α β : Type} {f : α → M → Option (Res β × M)} {x : α} {μ : M} : Rs (some (.ok x, μ)) f = f x μ := rfl
def bnd {α β : Type} (a : EV α) (f : α → EV β) : EV β := fun μ => Rs (a μ) f
theorem bnd_def {α β : Type} {a : EV α} {f : α → EV β} {μ : M} : bnd a f μ = Rs (a μ) f := rfl
def giv {α : Type} (a : α) : EV α := fun μ => some (.ok a, μ)
def op' {α : Type} (μ : M) : Option α → Option (Res α × M)
  | none => none
  | some x => some (.ok x, μ)
def opt {α : Type} (a : Option α) : EV α := fun μ => op' μ a
def ExR (K : Frag) (mg : Str → Option Value) (S : List Addr) (cls : Value) (dc : Option Addr) (H : Hp) (e : Exn) : Prop :=
  ∃ C, mg e.cls = some (.ref C) ∧ cls = .ref C ∧ (e.fs = [] ∨ ∃ dd fvs, dc = some dd ∧ H dd = some (.xd fvs) ∧ dd ∉ S ∧ fvs.map (·.1) = e.fs.map (·.1) ∧ Reps K (mask H S) (e.fs.map (·.2)) (fvs.map (·.2)))

/-- the reading of code in trees: r what it comes to, Z how its value lies, Q what is wanted -/
def Post {α β : Type} (K : Frag) (mg : Str → Option Value) (W : WX) (S0 S : List Addr) (σ : Sg) (H : Hp) (Z : List Addr → Hp → M → α → β → Prop) (r : Option (Res α × M)) (Q : β → Hp → Prop) : Prop :=
  match r with
  | none => False
  | some (.ok a, μ') => ∀ S' H' b, Gr S H S' H' → Z S' H' μ' a b → Q b H'
  | some (.exn e, μ') => ∀ S' H' cls dc, Gr S H S' H' → R K S0 S' H' σ μ' → ExR K mg (S0 ++ S') cls dc H' e → W cls dc σ H'
/-- frozen values -/
def ZF (K : Frag) (S0 : List Addr) (σ : Sg) : List Addr → Hp → M → D → V → Prop := fun S H μ d v => R K S0 S H σ μ ∧ Rep K (mask H (S0 ++ S)) d v
def ZFs (K : Frag) (S0 : List Addr) (σ : Sg) : List Addr → Hp → M → List D → List V → Prop := fun S H μ ds vs => R K S0 S H σ μ ∧ Reps K (mask H (S0 ++ S)) ds vs
def ZB (K : Frag) (S0 : List Addr) (σ : Sg) : List Addr → Hp → M → Bool → Bool → Prop := fun S H μ a b => R K S0 S H σ μ ∧ a = b
def ZI (K : Frag) (S0 : List Addr) (σ : Sg) : List Addr → Hp → M → Option Int → Option Int → Prop := fun S H μ a b => R K S0 S H σ μ ∧ a = b
/-- owned values -/
def ZO (K : Frag) (S0 : List Addr) (σ : Sg) : List Addr → Hp → M → (D × Kd) → V → Prop := fun S H μ d v => R K S0 S H (some v :: σ) (some d :: μ)

theorem Post.grow {α β : Type} {K : Frag} {mg : Str → Option Value} {W : WX} {S0 S S1 : List Addr} {σ : Sg} {H H1 : Hp} {Z : List Addr → Hp → M → α → β → Prop} {r : Option (Res α × M)} {Q : β → Hp → Prop} (g : Gr S H S1 H1)
    (h : Post K mg W S0 S σ H Z r Q) : Post K mg W S0 S1 σ H1 Z r Q := by
  match r, h with
  | none, h => exact h
  | some (.ok a, μ'), h => exact fun S' H' b g' => h S' H' b (g.trans g')
  | some (.exn e, μ'), h => exact fun S' H' cls dc g' => h S' H' cls dc (g.trans g')
theorem Post.bnd {α β α' β' : Type} {K : Frag} {mg : Str → Option Value} {W : WX} {S0 S : List Addr} {σ : Sg} {H : Hp} {Z : List Addr → Hp → M → α → β → Prop} {Z' : List Addr → Hp → M → α' → β' → Prop} {a : EV α'} {f : α' → EV α} {μ : M} {Q : β → Hp → Prop} {Q' : β' → Hp → Prop}
    (h : Post K mg W S0 S σ H Z (Mn.bnd a f μ) Q)
    (k : ∀ S1 H1 μ1 x y, Gr S H S1 H1 → Z' S1 H1 μ1 x y → Post K mg W S0 S1 σ H1 Z (f x μ1) Q → Q' y H1) : Post K mg W S0 S σ H Z' (a μ) Q' := by
  rw [bnd_def] at h
  unfold Rs at h
  match q : a μ, h with
  | none, h => exact h
  | some (.ok x, μ'), h => exact fun S' H' b g z => k S' H' μ' x b g z (h.grow g)
  | some (.exn e, μ'), h => exact h

variable {X : Cx} {W : WX}
def tF (K : Frag) (mg : Str → Option Value) (W : WX) (m : EV D) : TE := fun σ H Q => ∃ S0 S μ, R K S0 S H σ μ ∧ Post K mg W S0 S σ H (ZF K S0 σ) (m μ) Q
def tO (K : Frag) (mg : Str → Option Value) (W : WX) (m : EV (D × Kd)) : TE := fun σ H Q => ∃ S0 S μ, R K S0 S H σ μ ∧ Post K mg W S0 S σ H (ZO K S0 σ) (m μ) Q
def tA (K : Frag) (mg : Str → Option Value) (W : WX) (m : EV (List D)) : TA := fun σ H Q => ∃ S0 S μ, R K S0 S H σ μ ∧ Post K mg W S0 S σ H (ZFs K S0 σ) (m μ) Q
def tT (K : Frag) (mg : Str → Option Value) (W : WX) (m : EV Bool) : TT := fun σ H Q => ∃ S0 S μ, R K S0 S H σ μ ∧ Post K mg W S0 S σ H (ZB K S0 σ) (m μ) Q
/-- the judgements -/
abbrev JF (X : Cx) (W : WX) (e : Expr) (m : EV D) : Prop := PE X e (tF X.K X.mg W m)
abbrev JO (X : Cx) (W : WX) (e : Expr) (m : EV (D × Kd)) : Prop := PE X e (tO X.K X.mg W m)
abbrev JA (X : Cx) (W : WX) (es : List Expr) (m : EV (List D)) : Prop := PA X es (tA X.K X.mg W m)
abbrev JT (X : Cx) (W : WX) (e : Expr) (m : EV Bool) : Prop := PT X e (tT X.K X.mg W m)
theorem pe_imp {e : Expr} {t t' : TE} (h : PE X e t) (i : ∀ σ H Q, t' σ H Q → t σ H Q) : PE X e t' := ⟨fun pins s σ H Q I q => h.run pins s σ H Q I (i σ H Q q)⟩
theorem pt_imp {e : Expr} {t t' : TT} (h : PT X e t) (i : ∀ σ H Q, t' σ H Q → t σ H Q) : PT X e t' := ⟨fun pins s σ H Q I q => h.run pins s σ H Q I (i σ H Q q)⟩
theorem pw_imp {e : Expr} {t t' : TT} (h : PW X e t) (i : ∀ σ H Q, t' σ H Q → t σ H Q) : PW X e t' := ⟨fun w pins s σ H Q I q => h.run w pins s σ H Q I (i σ H Q q)⟩
theorem pa_imp {es : List Expr} {t t' : TA} (h : PA X es t) (i : ∀ σ H Q, t' σ H Q → t σ H Q) : PA X es t' := ⟨fun pos pins s σ H Q I q => h.run pos pins s σ H Q I (i σ H Q q)⟩
theorem ps_imp {st : Stmt} {t t' : TS} (h : PS X st t) (i : ∀ D σ H, t' D σ H → t D σ H) : PS X st t' := ⟨fun pins s σ H D I q => h.run pins s σ H D I (i D σ H q)⟩
theorem pss_imp {st : List Stmt} {t t' : TS} (h : PSs X st t) (i : ∀ D σ H, t' D σ H → t D σ H) : PSs X st t' := ⟨fun pins s σ H D I q => h.run pins s σ H D I (i D σ H q)⟩
end Mn
end
section
/-! Mn: slots taken and put; expressions. -/
namespace Mn
open PySem PySem.Spec PyProof.Rows L2

theorem Sls.len {f : Kd → D → V → List Addr → Prop} : ∀ {σ : List (Option V)} {μ : M} {S : List Addr}, Sls f σ μ S → σ.length = μ.length
  | [], [], _, _ => rfl
  | _ :: σ, none :: μ, S, h => by
    have q : Sls f σ μ S := h
    rw [List.length_cons, List.length_cons, q.len]
  | _ :: _, some (d, k) :: _, _, h => by
    obtain ⟨v, S1, S2, e1, e2, h1, h2⟩ := h
    rw [List.length_cons, List.length_cons, h2.len]
  | [], _ :: _, _, h => h.elim
  | _ :: _, [], _, h => h.elim
/-- a slot's value is taken out -/
theorem Sls.take {f : Kd → D → V → List Addr → Prop} {d : D} {k : Kd} : ∀ {σ : List (Option V)} {μ : M} {S : List Addr} {i : Nat}, Sls f σ μ S → μ[i]? = some (some (d, k)) →
    ∃ v S1 S2, σ[i]? = some (some v) ∧ f k d v S1 ∧ Sls f σ (μ.set i none) S2 ∧ S.Perm (S1 ++ S2)
  | [], [], _, _, _, e => by simp at e
  | _ :: σ, none :: μ, S, 0, h, e => by simp at e
  | x :: σ, none :: μ, S, i + 1, h, e => by
    have q : Sls f σ μ S := h
    obtain ⟨v, S1, S2, e1, h1, h2, p⟩ := q.take (i := i) (by simpa using e)
    exact ⟨v, S1, S2, by simpa using e1, h1, h2, p⟩
  | x :: σ, some (d', k') :: μ, S, 0, h, e => by
    obtain ⟨v, S1, S2, e1, e2, h1, h2⟩ := h
    have e' : (d', k') = (d, k) := by simpa using e
    cases e'
    subst e1
    exact ⟨v, S1, S2, rfl, h1, h2, by rw [e2]⟩
  | x :: σ, some (d', k') :: μ, S, i + 1, h, e => by
    obtain ⟨v, S1, S2, e1, e2, h1, h2⟩ := h
    obtain ⟨u, T1, T2, q1, q2, q3, p⟩ := h2.take (i := i) (by simpa using e)
    refine ⟨u, T1, S1 ++ T2, by simpa using q1, q2, ⟨v, S1, T2, e1, rfl, h1, q3⟩, ?_⟩
    rw [e2]
    refine (List.Perm.append_left S1 p).trans ?_
    rw [← List.append_assoc, ← List.append_assoc]
    exact List.Perm.append_right T2 List.perm_append_comm
  | [], _ :: _, _, _, h, _ => h.elim
  | _ :: _, [], _, _, h, _ => h.elim
/-- a value is put into a slot -/
theorem Sls.put {f : Kd → D → V → List Addr → Prop} {d : D} {k : Kd} {v : V} {S1 : List Addr} (hv : f k d v S1) : ∀ {σ : List (Option V)} {μ : M} {S2 : List Addr} {i : Nat}, i < σ.length → Sls f σ (μ.set i none) S2 →
    ∃ S, Sls f (σ.set i (some v)) (μ.set i (some (d, k))) S ∧ S.Perm (S1 ++ S2)
  | [], _, _, _, hi, h => by simp at hi
  | x :: σ, [], S2, i, hi, h => h.elim
  | x :: σ, y :: μ, S2, 0, hi, h => by
    have q : Sls f σ μ S2 := h
    exact ⟨S1 ++ S2, ⟨v, S1, S2, rfl, rfl, hv, q⟩, List.Perm.refl _⟩
  | x :: σ, none :: μ, S2, i + 1, hi, h => by
    have q : Sls f σ (μ.set i none) S2 := h
    obtain ⟨S, h1, p⟩ := q.put hv (i := i) (by simpa using hi)
    exact ⟨S, h1, p⟩
  | x :: σ, some (d', k') :: μ, S2, i + 1, hi, h => by
    have q : Sls f (x :: σ) (some (d', k') :: μ.set i none) S2 := h
    obtain ⟨u, T1, T2, e1, e2, h1, h2⟩ := q
    obtain ⟨S, h3, p⟩ := h2.put hv (i := i) (by simpa using hi)
    refine ⟨T1 ++ S, ⟨u, T1, S, e1, rfl, h1, h3⟩, ?_⟩
    rw [e2]
    refine (List.Perm.append_left T1 p).trans ?_
    rw [← List.append_assoc, ← List.append_assoc]
    exact List.Perm.append_right T2 List.perm_append_comm
theorem Sls.forget {f : Kd → D → V → List Addr → Prop} : ∀ {σ : List (Option V)} {μ : M} {S : List Addr} {i : Nat}, Sls f σ μ S → ∃ S', Sls f σ (μ.set i none) S' ∧ S'.Sublist S
  | [], [], S, _, h => ⟨S, h, List.Sublist.refl _⟩
  | _ :: σ, none :: μ, S, 0, h => ⟨S, h, List.Sublist.refl _⟩
  | x :: σ, none :: μ, S, i + 1, h => by
    have q : Sls f σ μ S := h
    obtain ⟨S', h1, p⟩ := q.forget (i := i)
    exact ⟨S', h1, p⟩
  | x :: σ, some (d', k') :: μ, S, 0, h => by
    obtain ⟨v, S1, S2, e1, e2, h1, h2⟩ := h
    exact ⟨S2, h2, by rw [e2]; exact List.sublist_append_right _ _⟩
  | x :: σ, some (d', k') :: μ, S, i + 1, h => by
    obtain ⟨v, S1, S2, e1, e2, h1, h2⟩ := h
    obtain ⟨S', h3, p⟩ := h2.forget (i := i)
    exact ⟨S1 ++ S', ⟨v, S1, S', e1, rfl, h1, h3⟩, by rw [e2]; exact List.Sublist.append_left p S1⟩
  | [], _ :: _, _, _, h => h.elim
  | _ :: _, [], _, _, h => h.elim
/-- the same items at other slots' values where nothing is told -/
theorem Sls.forgetV {f : Kd → D → V → List Addr → Prop} {y : Option V} : ∀ {σ : List (Option V)} {μ : M} {S : List Addr} {i : Nat}, Sls f σ (μ.set i none) S → Sls f (σ.set i y) (μ.set i none) S
  | [], [], S, _, h => h
  | _ :: σ, z :: μ, S, 0, h => h
  | x :: σ, none :: μ, S, i + 1, h => by
    have q : Sls f σ (μ.set i none) S := h
    exact q.forgetV
  | x :: σ, some (d', k') :: μ, S, i + 1, h => by
    have q : Sls f (x :: σ) (some (d', k') :: μ.set i none) S := h
    obtain ⟨v, S1, S2, e1, e2, h1, h2⟩ := q
    exact ⟨v, S1, S2, e1, e2, h1, h2.forgetV⟩
  | [], _ :: _, _, _, h => h
  | _ :: _, [], _, _, h => h.elim

section
variable {K : Frag} {S0 S S' : List Addr} {H H' : Hp} {σ : List (Option V)} {μ : M} {d : D} {k : Kd} {v : V} {i : Nat}
theorem mask_sub (h : ∀ a ∈ S', a ∈ S) : Ex (mask H (S0 ++ S)) (mask H (S0 ++ S')) := mask_mono fun a o n e => ⟨fun z => by
  rcases List.mem_append.mp z with z | z
  · exact n (List.mem_append_left _ z)
  · exact n (List.mem_append_right _ (h a z)), e⟩
/-- less is owned -/
theorem R.shrink (r : R K S0 S H σ μ) {σ' : List (Option V)} {μ' : M} (hs : Sls (own K (S0 ++ S) H) σ' μ' S') (sub : ∀ a ∈ S', a ∈ S) (nd : S'.Nodup) : R K S0 S' H σ' μ' where
  t0 := r.t0
  dis := fun a ha => r.dis a (sub a ha)
  nd := nd
  sl := hs.mono fun k d v S1 _ q => q.mono (mask_sub sub) fun _ _ => rfl
theorem gr_sub (sub : ∀ a ∈ S', a ∈ S) : Gr S H S' H := ⟨fun _ _ h _ => h, fun a ha => .inl (sub a ha)⟩
/-- what is frozen there may be known in more -/
theorem Own.frozen (h : own K (S0 ++ S) H k d v S') (sub : ∀ a ∈ S', a ∈ S) (r : R K S0 S H σ μ) {T : List Addr} (hT : ∀ a ∈ T, a ∈ S ∧ a ∉ S') : Rep K (mask H (S0 ++ T)) d v :=
  h.rep (mask_sub fun a ha => (hT a ha).1) fun a ha o e => mask_some.mpr ⟨fun z => by
    rcases List.mem_append.mp z with z | z
    · exact r.dis a (sub a ha) z
    · exact (hT a z).2 ha, e⟩
/-- a slot is read: it is frozen from then on -/
theorem R.read (r : R K S0 S H σ μ) (h : μ[i]? = some (some (d, k))) : ∃ v S', σ[i]? = some (some v) ∧ (∀ a ∈ S', a ∈ S) ∧ R K S0 S' H σ (μ.set i (some (d, .z))) ∧ Rep K (mask H (S0 ++ S')) d v := by
  obtain ⟨v, S1, S2, e1, h1, h2, p⟩ := r.sl.take h
  have sub1 : ∀ a ∈ S1, a ∈ S := fun a ha => p.mem_iff.mpr (List.mem_append_left _ ha)
  have sub2 : ∀ a ∈ S2, a ∈ S := fun a ha => p.mem_iff.mpr (List.mem_append_right _ ha)
  have nd : (S1 ++ S2).Nodup := p.nodup_iff.mp r.nd
  have dj : ∀ a ∈ S2, a ∉ S1 := fun a ha hb => (List.nodup_append.mp nd).2.2 a hb a ha rfl
  have fr : Rep K (mask H (S0 ++ S2)) d v := Own.frozen h1 sub1 r fun a ha => ⟨sub2 a ha, dj a ha⟩
  have hl : i < σ.length := (List.getElem?_eq_some_iff.mp e1).1
  have hs2 : Sls (own K (S0 ++ S2) H) σ (μ.set i none) S2 := h2.mono fun k d v S1 _ q => q.mono (mask_sub sub2) fun _ _ => rfl
  obtain ⟨S', h3, p3⟩ := Sls.put (f := own K (S0 ++ S2) H) (k := Kd.z) (d := d) (v := v) (S1 := []) ⟨rfl, fr⟩ hl hs2
  have eσ : σ.set i (some v) = σ := by
    apply List.ext_getElem?
    intro j
    by_cases hj : j = i
    · subst hj
      rw [List.getElem?_set_self hl, e1]
    · rw [List.getElem?_set_ne (Ne.symm hj)]
  rw [eσ] at h3
  have p4 : S'.Perm S2 := by simpa using p3
  have m4 : ∀ a, a ∈ S' ↔ a ∈ S2 := fun a => p4.mem_iff
  refine ⟨v, S', e1, fun a ha => sub2 a ((m4 a).mp ha), ⟨r.t0, fun a ha => r.dis a (sub2 a ((m4 a).mp ha)), p4.nodup_iff.mpr (List.nodup_append.mp nd).2.1, h3.mono fun k d v S1 _ q => q.mono (mask_sub fun a ha => (m4 a).mp ha) fun _ _ => rfl⟩, fr.ex (mask_sub fun a ha => (m4 a).mp ha)⟩
theorem R.read0 (r : R K S0 S H σ μ) (h : μ[i]? = some (some (d, .z))) : ∃ v, σ[i]? = some (some v) ∧ Rep K (mask H (S0 ++ S)) d v := by
  obtain ⟨v, S1, S2, e1, h1, h2, p⟩ := r.sl.take h
  exact ⟨v, e1, h1.2⟩
/-- a value ahead of the slots is stored -/
theorem R.store (r : R K S0 S H (some v :: σ) (some (d, k) :: μ)) (hi : i < σ.length) : ∃ S', (∀ a ∈ S', a ∈ S) ∧ R K S0 S' H (σ.set i (some v)) (μ.set i (some (d, k))) := by
  obtain ⟨v', S1, S2, e1, e2, h1, h2⟩ := r.sl
  cases e1
  have nd := r.nd
  rw [e2] at nd
  obtain ⟨T, h3, sub3⟩ := h2.forget (i := i)
  obtain ⟨S', h4, p⟩ := Sls.put h1 hi h3
  have nd2 : (S1 ++ T).Nodup := (List.Sublist.append_left sub3 S1).nodup nd
  have mm : ∀ a ∈ S', a ∈ S := fun a ha => by
    rw [e2]
    rcases List.mem_append.mp (p.mem_iff.mp ha) with z | z
    · exact List.mem_append_left _ z
    · exact List.mem_append_right _ (sub3.subset z)
  exact ⟨S', mm, r.shrink h4 mm (p.nodup_iff.mpr nd2)⟩
/-- a frozen value ahead -/
theorem R.push (r : R K S0 S H σ μ) (h : Rep K (mask H (S0 ++ S)) d v) : R K S0 S H (some v :: σ) (some (d, .z) :: μ) :=
  ⟨r.t0, r.dis, r.nd, ⟨v, [], S, rfl, rfl, ⟨rfl, h⟩, r.sl⟩⟩
/-- the value ahead is frozen -/
theorem R.pop (r : R K S0 S H (some v :: σ) (some (d, k) :: μ)) : ∃ S', (∀ a ∈ S', a ∈ S) ∧ R K S0 S' H σ μ ∧ Rep K (mask H (S0 ++ S')) d v := by
  obtain ⟨v', S1, S2, e1, e2, h1, h2⟩ := id r.sl
  cases e1
  have nd := r.nd
  rw [e2] at nd
  have sub1 : ∀ a ∈ S1, a ∈ S := fun a ha => by rw [e2]; exact List.mem_append_left _ ha
  have sub2 : ∀ a ∈ S2, a ∈ S := fun a ha => by rw [e2]; exact List.mem_append_right _ ha
  have dj : ∀ a ∈ S2, a ∉ S1 := fun a ha hb => (List.nodup_append.mp nd).2.2 a hb a ha rfl
  exact ⟨S2, sub2, r.shrink h2 sub2 (List.nodup_append.mp nd).2.1, Own.frozen h1 sub1 r fun a ha => ⟨sub2 a ha, dj a ha⟩⟩
end

/-! ### names, constants -/
section
variable {X : Cx} {W : WX} {a b c e : Expr} {ma mb mc m : EV D} {pos p : Pos}
/-- the value in a slot; it is frozen -/
def rd (i : Nat) (μ : M) : Option (Option (D × Kd)) → Option (Res D × M)
  | some (some (d, .z)) => some (.ok d, μ)
  | some (some (d, .s _)) => some (.ok d, μ.set i (some (d, .z)))
  | _ => none
def rdv (i : Nat) : EV D := fun μ => rd i μ μ[i]?
theorem j_var {i : Nat} {x : Str} (hN : X.N[i]? = some x) (hv : Vis X.env.scope x) (hd : (x == ("__debug__" : Str)) = false := by decide) (hcd : (x == ("__classdict__" : Str)) = false := by decide) : JF X W (.Name x pos) (rdv i) := by
  refine pe_imp (pe_var hN hv hd hcd) fun σ H Q h => ?_
  obtain ⟨S0, S, μ, r, h⟩ := h
  unfold rdv at h
  cases q : μ[i]? with
  | none =>
    rw [q] at h
    exact h.elim
  | some o =>
    rw [q] at h
    cases o with
    | none => exact h.elim
    | some dk =>
      obtain ⟨d, k⟩ := dk
      cases k with
      | z =>
        obtain ⟨v, e1, p1⟩ := r.read0 q
        exact ⟨v, e1, h S H v Gr.refl ⟨r, p1⟩⟩
      | s k =>
        obtain ⟨v, S', e1, sub, r', p1⟩ := r.read q
        exact ⟨v, e1, h S' H v (gr_sub sub) ⟨r', p1⟩⟩
theorem j_lit {d : D} {v : V} (h : PE X e (tC v)) (hr : ∀ F, Rep X.K F d v) : JF X W e (giv d) := by
  refine pe_imp h fun σ H Q h => ?_
  obtain ⟨S0, S, μ, r, h⟩ := h
  exact h S H v Gr.refl ⟨r, hr _⟩
theorem j_int {i : Int} {j : Nat} : JF X W (.Constant (.int i) j pos) (giv (.int i)) := j_lit pe_int fun _ => rfl
theorem j_bl {b : Bool} {j : Nat} : JF X W (.Constant (.bool b) j pos) (giv (.bl b)) := j_lit pe_bl fun _ => rfl
theorem j_non {j : Nat} : JF X W (.Constant .none j pos) (giv .non) := j_lit pe_non fun _ => rfl
theorem j_str {x : Str} {cs : List Nat} {j : Nat} (hx : x = ⟨cs.toArray⟩) : JF X W (.Constant (.str x) j pos) (giv (.str cs)) := j_lit pe_str fun _ => by rw [hx]; rfl
/-- a module's constant -/
theorem j_glob {x : Str} {d : D} {v : V} {u : Value} (hg : Gl X x) (hm : X.mg x = some u) (r : RelV v u) (hr : ∀ F, Rep X.K F d v) (hd : (x == ("__debug__" : Str)) = false := by decide) : JF X W (.Name x pos) (giv d) := j_lit (pe_glob hg hm r hd) hr

/-! ### operations by values -/
/-- r, where its values lie as trees, is g -/
def Op2 (K : Frag) (r : R2) (g : D → D → Option D) : Prop := ∀ (S : List Addr) (H : Hp) (d e c : D) (x y : V) (Q : VK), (∀ a ∈ S, H a ≠ none) → Rep K (mask H S) d x → Rep K (mask H S) e y → g d e = some c →
  (∀ v H', Ex H H' → Rep K (mask H' S) c v → Q v H') → r x y H Q
def Op1 (K : Frag) (r : V → Hp → VK → Prop) (g : D → Option D) : Prop := ∀ (S : List Addr) (H : Hp) (d c : D) (x : V) (Q : VK), (∀ a ∈ S, H a ≠ none) → Rep K (mask H S) d x → g d = some c →
  (∀ v H', Ex H H' → Rep K (mask H' S) c v → Q v H') → r x H Q
def OpN (K : Frag) (r : List V → Hp → VK → Prop) (g : List D → Option D) : Prop := ∀ (S : List Addr) (H : Hp) (ds : List D) (c : D) (xs : List V) (Q : VK), (∀ a ∈ S, H a ≠ none) → Reps K (mask H S) ds xs → g ds = some c →
  (∀ v H', Ex H H' → Rep K (mask H' S) c v → Q v H') → r xs H Q
def m1 (g : D → Option D) (a : EV D) : EV D := bnd a fun x => opt (g x)
def m2 (g : D → D → Option D) (a b : EV D) : EV D := bnd a fun x => bnd b fun y => opt (g x y)
def mN (g : List D → Option D) (a : EV (List D)) : EV D := bnd a fun x => opt (g x)
theorem op2_run {K : Frag} {mg : Str → Option Value} {r : R2} {g : D → D → Option D} (hg : Op2 K r g) {σ : Sg} {H : Hp} {Q : VK} (h : tF K mg W (m2 g ma mb) σ H Q) : tOp r (tF K mg W ma) (tF K mg W mb) σ H Q := by
  obtain ⟨S0, S, μ, rr, h⟩ := h
  refine ⟨S0, S, μ, rr, Post.bnd (Z' := ZF K S0 σ) h fun S1 H1 μ1 d v g1 z1 h1 => ?_⟩
  refine ⟨S0, S1, μ1, z1.1, Post.bnd (Z' := ZF K S0 σ) h1 fun S2 H2 μ2 e u g2 z2 h2 => ?_⟩
  cases q : g d e with
  | none =>
    rw [q] at h2
    exact h2.elim
  | some c =>
    rw [q] at h2
    exact hg (S0 ++ S2) H2 d e c v u Q z2.1.tr (z1.2.ex g2.mask) z2.2 q fun w H3 ex p => h2 S2 H3 w (Gr.ex ex) ⟨z2.1.ex ex, p⟩
theorem j_op {op : Operator} {r : R2} {g : D → D → Option D} (ho : OpR X (binaryOp op) r) (hg : Op2 X.K r g) (ha : JF X W a ma) (hb : JF X W b mb) : JF X W (.BinOp a op b pos) (m2 g ma mb) := pe_imp (pe_op ho ha hb) fun σ H Q h => op2_run hg h
theorem j_cmp {op : CmpOp} {r : R2} {g : D → D → Option D} (ho : OpR X (compareOp op) r) (hg : Op2 X.K r g) (ha : JF X W a ma) (hb : JF X W b mb) (hm : behindInMarks op b = false) : JF X W (.Compare a [op] [b] pos) (m2 g ma mb) := pe_imp (pe_cmpR ho ha hb hm) fun σ H Q h => op2_run hg h
theorem j_un {op : UnaryOp} {r : V → Hp → VK → Prop} {g : D → Option D} (ho : UnR X (unaryOp op) r) (hg : Op1 X.K r g) (ha : JF X W a ma) : JF X W (.UnaryOp op a pos) (m1 g ma) := by
  refine pe_imp (pe_un ho ha) fun σ H Q h => ?_
  obtain ⟨S0, S, μ, rr, h⟩ := h
  refine ⟨S0, S, μ, rr, Post.bnd (Z' := ZF X.K S0 σ) h fun S1 H1 μ1 d v g1 z1 h1 => ?_⟩
  cases q : g d with
  | none =>
    rw [q] at h1
    exact h1.elim
  | some c =>
    rw [q] at h1
    exact hg (S0 ++ S1) H1 d c v Q z1.1.tr z1.2 q fun w H3 ex p => h1 S1 H3 w (Gr.ex ex) ⟨z1.1.ex ex, p⟩
theorem j_ix {r : R2} {g : D → D → Option D} (ho : IxR X r) (hg : Op2 X.K r g) (ha : JF X W a ma) (hb : JF X W b mb) (hs : PlainIx b) : JF X W (.Subscript a b pos) (m2 g ma mb) := pe_imp (pe_ix ho ha hb hs) fun σ H Q h => op2_run hg h
/-- a <= b < c -/
def vB0 (a b : EV D) : D → EV D
  | .bl true => a
  | .bl false => b
  | _ => fun _ => none
def mCh (g g' : D → D → Option D) (a b c : EV D) : EV D := bnd a fun x => bnd b fun y => bnd (opt (g x y)) (vB0 (bnd c fun w => opt (g' y w)) (giv (.bl false)))
theorem chain_run {K : Frag} {mg : Str → Option Value} {r r' : R2} {g g' : D → D → Option D} (hg : Op2 K r g) (hg' : Op2 K r' g') {σ : Sg} {H : Hp} {Q : VK} (h : tF K mg W (mCh g g' ma mb mc) σ H Q) : tChain r r' (tF K mg W ma) (tF K mg W mb) (tF K mg W mc) σ H Q := by
  obtain ⟨S0, S, μ, rr, h⟩ := h
  refine ⟨S0, S, μ, rr, Post.bnd (Z' := ZF K S0 σ) h fun S1 H1 μ1 d v g1 z1 h1 => ?_⟩
  refine ⟨S0, S1, μ1, z1.1, Post.bnd (Z' := ZF K S0 σ) h1 fun S2 H2 μ2 e u g2 z2 h2 => ?_⟩
  cases q : g d e with
  | none =>
    rw [q] at h2
    exact h2.elim
  | some c =>
    rw [q] at h2
    refine hg (S0 ++ S2) H2 d e c v u _ z2.1.tr (z1.2.ex g2.mask) z2.2 q fun w H3 ex p => ?_
    cases c with
    | bl k =>
      refine ⟨k, p, ?_⟩
      cases k with
      | true =>
        rw [if_pos rfl]
        have h3 : Post K mg W S0 S2 σ H2 (ZF K S0 σ) (bnd mc (fun w => opt (g' e w)) μ2) Q := h2
        refine ⟨S0, S2, μ2, z2.1.ex ex, Post.bnd (Z' := ZF K S0 σ) (h3.grow (Gr.ex ex)) fun S4 H4 μ4 d4 v4 g4 z4 h4 => ?_⟩
        cases q' : g' e d4 with
        | none =>
          rw [q'] at h4
          exact h4.elim
        | some c' =>
          rw [q'] at h4
          exact hg' (S0 ++ S4) H4 e d4 c' u v4 Q z4.1.tr ((z2.2.ex (Gr.ex ex).mask).ex g4.mask) z4.2 q' fun w H5 ex5 p5 => h4 S4 H5 w (Gr.ex ex5) ⟨z4.1.ex ex5, p5⟩
      | false =>
        rw [if_neg Bool.false_ne_true]
        exact h2 S2 H3 _ (Gr.ex ex) ⟨z2.1.ex ex, rfl⟩
    | _ => exact h2.elim

theorem j_chain {op op' : CmpOp} {r r' : R2} {g g' : D → D → Option D} (ho : OpR X (compareOp op) r) (ho' : OpR X (compareOp op') r') (hg : Op2 X.K r g) (hg' : Op2 X.K r' g') (ha : JF X W a ma) (hb : JF X W b mb) (hc : JF X W c mc)
    (hm : lastMarks [op, op'] [b, c] = false := by with_unfolding_all rfl) : JF X W (.Compare a [op, op'] [b, c] pos) (mCh g g' ma mb mc) :=
  pe_imp (pe_chain ho ho' ha hb hc hm) fun σ H Q h => chain_run hg hg' h

/-! ### tests -/
def truth : D → Option Bool
  | .non => some false
  | .bl b => some b
  | .int i => some (i != 0)
  | .str x => if x.length ≤ 16777216 then some (!x.isEmpty) else none
  | .tup xs => some (!xs.isEmpty)
  | .lst xs => some (!xs.isEmpty)
def mT (a : EV D) : EV Bool := bnd a fun x => opt (truth x)
def asB : D → Option Bool
  | .bl b => some b
  | _ => none
def mB (a : EV D) : EV Bool := bnd a fun x => opt (asB x)
theorem reps_empty {K : Frag} {F : Hp} {ds : List D} {vs : List V} (h : Reps K F ds vs) : (!ds.isEmpty) = !vs.isEmpty := by
  cases ds with
  | nil =>
    have e : vs = [] := h
    rw [e]
    rfl
  | cons d r =>
    obtain ⟨v, r', e, _⟩ := h
    rw [e]
    rfl
theorem truth_ok {K : Frag} {S : List Addr} {H : Hp} {d : D} {v : V} {b : Bool} (h : Rep K (mask H S) d v) (q : truth d = some b) : TruV K v H b := by
  cases d with
  | non =>
    have e : v = .non := h
    subst e
    cases q
    rfl
  | bl c =>
    have e : v = .bl c := h
    subst e
    cases q
    rfl
  | int i =>
    have e : v = .int i := h
    subst e
    cases q
    rfl
  | str x =>
    have e : v = .str ⟨x.toArray⟩ := h
    subst e
    have q' : (if x.length ≤ 16777216 then some (!x.isEmpty) else none) = some b := q
    split at q'
    · rename_i hl
      cases q'
      refine ⟨?_, ?_⟩
      · show (x.toArray).size ≤ sizeLine
        rw [sizeLine_eq]
        simpa using hl
      · show (!x.isEmpty) = (((x.toArray.size : Nat) : Int) != 0)
        cases x with
        | nil => rfl
        | cons c r =>
          have : ¬ ((((c :: r).toArray.size : Nat) : Int) = 0) := by simp; omega
          show true = !((((c :: r).toArray.size : Nat) : Int) == 0)
          rw [beq_eq_false_iff_ne.mpr this]
          rfl
    · cases q'
  | tup ds =>
    obtain ⟨a, vs, e1, h1, h2⟩ := h
    subst e1
    cases q
    exact .inr (.inl ⟨vs, ex_t mask_ex h1, reps_empty h2⟩)
  | lst ds =>
    obtain ⟨a, vs, e1, h1, h2⟩ := h
    subst e1
    cases q
    exact .inl ⟨vs, ex_l mask_ex h1, reps_empty h2⟩
theorem jt_truth (ha : JF X W a ma) (he : ∀ whole, isTrue a X.env whole = (do let v ← whole; standAt a.pos; holding [v] (truthy v)) := by intro _; rfl) : JT X W a (mT ma) := by
  refine pt_imp (pt_truth ha he) fun σ H Q h => ?_
  obtain ⟨S0, S, μ, rr, h⟩ := h
  refine ⟨S0, S, μ, rr, Post.bnd (Z' := ZF X.K S0 σ) h fun S1 H1 μ1 d v g1 z1 h1 => ?_⟩
  cases q : truth d with
  | none =>
    rw [q] at h1
    exact h1.elim
  | some b =>
    rw [q] at h1
    exact ⟨b, truth_ok z1.2 q, h1 S1 H1 b Gr.refl ⟨z1.1, rfl⟩⟩
theorem asB_ok {K : Frag} {F : Hp} {d : D} {v : V} {b : Bool} (h : Rep K F d v) (q : asB d = some b) : v = .bl b := by
  cases d with
  | bl c =>
    cases q
    exact h
  | _ => cases q
theorem test_run {K : Frag} {mg : Str → Option Value} {σ : Sg} {H : Hp} {Q : Bool → Hp → Prop} (h : tT K mg W (mB ma) σ H Q) : tF K mg W ma σ H fun x H' => ∃ k, x = .bl k ∧ Q k H' := by
  obtain ⟨S0, S, μ, rr, h⟩ := h
  refine ⟨S0, S, μ, rr, Post.bnd (Z' := ZF K S0 σ) h fun S1 H1 μ1 d v g1 z1 h1 => ?_⟩
  cases q : asB d with
  | none =>
    rw [q] at h1
    exact h1.elim
  | some b =>
    rw [q] at h1
    exact ⟨b, asB_ok z1.2 q, h1 S1 H1 b Gr.refl ⟨z1.1, rfl⟩⟩
/-- a value that is a bool -/
theorem jt_val (ha : JF X W a ma) (he : ∀ whole, isTrue a X.env whole = (do let v ← whole; standAt a.pos; holding [v] (truthy v)) := by intro _; rfl) : JT X W a (mB ma) := pt_imp (pt_val ha he) fun σ H Q h => test_run h
theorem jt_cmp {op : CmpOp} {r : R2} {g : D → D → Option D} (ho : OpR X (compareOp op) r) (hg : Op2 X.K r g) (ha : JF X W a ma) (hb : JF X W b mb) (hm : behindInMarks op b = false) : JT X W (.Compare a [op] [b] pos) (mB (m2 g ma mb)) := by
  refine pt_imp (pt_cmpR ho ha hb hm) fun σ H Q h => ?_
  exact op2_run hg (test_run h)
theorem jt_not {mc : EV Bool} (ha : JT X W a mc) : JT X W (.UnaryOp .Not a pos) (bnd mc fun b => giv !b) := by
  refine pt_imp (pt_not ha) fun σ H Q h => ?_
  obtain ⟨S0, S, μ, rr, h⟩ := h
  refine ⟨S0, S, μ, rr, Post.bnd (Z' := ZB X.K S0 σ) h fun S1 H1 μ1 d v g1 z1 h1 => ?_⟩
  obtain ⟨z1, e⟩ := z1
  subst e
  exact h1 S1 H1 _ Gr.refl ⟨z1, rfl⟩
abbrev JW (X : Cx) (W : WX) (e : Expr) (m : EV Bool) : Prop := PW X e (tT X.K X.mg W m)
def mAnd (a b : EV Bool) : EV Bool := bnd a fun x => cond x b (giv false)
def mOr (a b : EV Bool) : EV Bool := bnd a fun x => cond x (giv true) b
variable {ta tb : EV Bool} {rest : List Expr}
theorem jw_and1 (ha : JT X W a ta) : JW X W (.BoolOp .And [a] pos) ta := pw_and1 ha
theorem jw_or1 (ha : JT X W a ta) : JW X W (.BoolOp .Or [a] pos) ta := pw_or1 ha
theorem jw_and (ha : JT X W a ta) (hb : JW X W (.BoolOp .And (b :: rest) pos) tb) : JW X W (.BoolOp .And (a :: b :: rest) pos) (mAnd ta tb) := by
  refine pw_imp (pw_and ha hb) fun σ H Q h => ?_
  obtain ⟨S0, S, μ, rr, h⟩ := h
  refine ⟨S0, S, μ, rr, Post.bnd (Z' := ZB X.K S0 σ) h fun S1 H1 μ1 d v g1 z1 h1 => ?_⟩
  obtain ⟨z1, e⟩ := z1
  subst e
  cases d with
  | true =>
    rw [if_pos rfl]
    exact ⟨S0, S1, μ1, z1, h1⟩
  | false =>
    rw [if_neg Bool.false_ne_true]
    exact h1 S1 H1 _ Gr.refl ⟨z1, rfl⟩
theorem jw_or (ha : JT X W a ta) (hb : JW X W (.BoolOp .Or (b :: rest) pos) tb) : JW X W (.BoolOp .Or (a :: b :: rest) pos) (mOr ta tb) := by
  refine pw_imp (pw_or ha hb) fun σ H Q h => ?_
  obtain ⟨S0, S, μ, rr, h⟩ := h
  refine ⟨S0, S, μ, rr, Post.bnd (Z' := ZB X.K S0 σ) h fun S1 H1 μ1 d v g1 z1 h1 => ?_⟩
  obtain ⟨z1, e⟩ := z1
  subst e
  cases d with
  | true =>
    rw [if_pos rfl]
    exact h1 S1 H1 _ Gr.refl ⟨z1, rfl⟩
  | false =>
    rw [if_neg Bool.false_ne_true]
    exact ⟨S0, S1, μ1, z1, h1⟩
theorem jt_w {mc : EV Bool} (h : JW X W a mc) : JT X W a mc := PW.pt h
/-! and, or, not as values: bools -/
def vB (a b : EV D) : D → EV D
  | .bl true => a
  | .bl false => b
  | _ => fun _ => none
def vAnd (a b : EV D) : EV D := bnd a (vB b (giv (.bl false)))
def vOr (a b : EV D) : EV D := bnd a (vB (giv (.bl true)) b)
def gNot : D → Option D
  | .bl b => some (.bl !b)
  | _ => none
def vNot (a : EV D) : EV D := m1 gNot a
theorem j_one {op : BoolOp} (ha : JF X W a ma) : JF X W (.BoolOp op [a] pos) ma := pe_one ha
theorem j_and (ha : JF X W a ma) (hb : JF X W (.BoolOp .And (b :: rest) pos) mb) : JF X W (.BoolOp .And (a :: b :: rest) pos) (vAnd ma mb) := by
  refine pe_imp (pe_and ha hb) fun σ H Q h => ?_
  obtain ⟨S0, S, μ, rr, h⟩ := h
  refine ⟨S0, S, μ, rr, Post.bnd (Z' := ZF X.K S0 σ) h fun S1 H1 μ1 d v g1 z1 h1 => ?_⟩
  cases d with
  | bl c =>
    refine ⟨c, z1.2, ?_⟩
    cases c with
    | true =>
      rw [if_pos rfl]
      exact ⟨S0, S1, μ1, z1.1, h1⟩
    | false =>
      rw [if_neg Bool.false_ne_true]
      exact h1 S1 H1 _ Gr.refl ⟨z1.1, rfl⟩
  | _ => exact h1.elim
theorem j_or (ha : JF X W a ma) (hb : JF X W (.BoolOp .Or (b :: rest) pos) mb) : JF X W (.BoolOp .Or (a :: b :: rest) pos) (vOr ma mb) := by
  refine pe_imp (pe_or ha hb) fun σ H Q h => ?_
  obtain ⟨S0, S, μ, rr, h⟩ := h
  refine ⟨S0, S, μ, rr, Post.bnd (Z' := ZF X.K S0 σ) h fun S1 H1 μ1 d v g1 z1 h1 => ?_⟩
  cases d with
  | bl c =>
    refine ⟨c, z1.2, ?_⟩
    cases c with
    | true =>
      rw [if_pos rfl]
      exact h1 S1 H1 _ Gr.refl ⟨z1.1, rfl⟩
    | false =>
      rw [if_neg Bool.false_ne_true]
      exact ⟨S0, S1, μ1, z1.1, h1⟩
  | _ => exact h1.elim
theorem j_not (ha : JF X W a ma) : JF X W (.UnaryOp .Not a pos) (vNot ma) := by
  refine pe_imp (pe_not ha) fun σ H Q h => ?_
  obtain ⟨S0, S, μ, rr, h⟩ := h
  refine ⟨S0, S, μ, rr, Post.bnd (Z' := ZF X.K S0 σ) h fun S1 H1 μ1 d v g1 z1 h1 => ?_⟩
  cases d with
  | bl c => exact ⟨c, z1.2, h1 S1 H1 _ Gr.refl ⟨z1.1, rfl⟩⟩
  | _ => exact h1.elim
def mIf {α : Type} (t : EV Bool) (a b : EV α) : EV α := bnd t fun x => cond x a b
theorem j_if {mt : EV Bool} (hc : JT X W c mt) (ha : JF X W a ma) (hb : JF X W b mb) : JF X W (.IfExp c a b pos) (mIf mt ma mb) := by
  refine pe_imp (pe_ifExp hc ha hb) fun σ H Q h => ?_
  obtain ⟨S0, S, μ, rr, h⟩ := h
  refine ⟨S0, S, μ, rr, Post.bnd (Z' := ZB X.K S0 σ) h fun S1 H1 μ1 d v g1 z1 h1 => ?_⟩
  obtain ⟨z1, e⟩ := z1
  subst e
  cases d with
  | true =>
    rw [if_pos rfl]
    exact ⟨S0, S1, μ1, z1, h1⟩
  | false =>
    rw [if_neg Bool.false_ne_true]
    exact ⟨S0, S1, μ1, z1, h1⟩

/-! ### arguments, displays, calls of what is built in -/
def aNil : EV (List D) := giv []
def aCons (a : EV D) (r : EV (List D)) : EV (List D) := bnd a fun x => bnd r fun xs => giv (x :: xs)
variable {es : List Expr} {mr : EV (List D)}
theorem ja_nil : JA X W [] aNil := by
  refine pa_imp pa_nil fun σ H Q h => ?_
  obtain ⟨S0, S, μ, rr, h⟩ := h
  exact h S H [] Gr.refl ⟨rr, Reps.nil⟩
theorem ja_cons (ha : JF X W e m) (hr : JA X W es mr) (hs : starEach (e :: es) X.env = (false, eval e X.env) :: starEach es X.env := by rfl) : JA X W (e :: es) (aCons m mr) := by
  refine pa_imp (pa_cons ha hr hs) fun σ H Q h => ?_
  obtain ⟨S0, S, μ, rr, h⟩ := h
  refine ⟨S0, S, μ, rr, Post.bnd (Z' := ZF X.K S0 σ) h fun S1 H1 μ1 d v g1 z1 h1 => ?_⟩
  refine ⟨S0, S1, μ1, z1.1, Post.bnd (Z' := ZFs X.K S0 σ) h1 fun S2 H2 μ2 e u g2 z2 h2 => ?_⟩
  exact h2 S2 H2 _ Gr.refl ⟨z2.1, Reps.cons (z1.2.ex g2.mask) z2.2⟩
theorem opN_run {K : Frag} {mg : Str → Option Value} {r : List V → Hp → VK → Prop} {g : List D → Option D} (hg : OpN K r g) {σ : Sg} {H : Hp} {Q : VK} (h : tF K mg W (mN g mr) σ H Q) : tA K mg W mr σ H fun vs H1 => r vs H1 Q := by
  obtain ⟨S0, S, μ, rr, h⟩ := h
  refine ⟨S0, S, μ, rr, Post.bnd (Z' := ZFs K S0 σ) h fun S1 H1 μ1 d v g1 z1 h1 => ?_⟩
  cases q : g d with
  | none =>
    rw [q] at h1
    exact h1.elim
  | some c =>
    rw [q] at h1
    exact hg (S0 ++ S1) H1 d c v Q z1.1.tr z1.2 q fun w H3 ex p => h1 S1 H3 w (Gr.ex ex) ⟨z1.1.ex ex, p⟩
variable {x : Str} {id T : String}
theorem j_callB {r : List V → Hp → VK → Prop} {g : List D → Option D} (hc : CallR X (.builtin id) r) (hg' : OpN X.K r g) (hg : Gl X x) (hm : X.mg x = none) (hv : bootBuiltins x = some (.builtin id)) (ha : JA X W (e :: es) mr) (hn : x ≠ "__name__" := by decide) (hdb : (x == ("__debug__" : Str)) = false := by decide)
    (he : starEach (e :: es) X.env = (false, eval e X.env) :: starEach es X.env := by rfl) (hpl : (backTo pos (starEach es X.env)).any (·.1) = false := by rfl) : JF X W (.Call (.Name x p) (e :: es) [] pos) (mN g mr) :=
  pe_imp (pe_callB hc hg hm hv ha hn hdb he hpl) fun σ H Q h => opN_run hg' h
theorem j_callTy {r : List V → Hp → VK → Prop} {g : List D → Option D} (hc : CallR X (.type T) r) (hg' : OpN X.K r g) (hg : Gl X x) (hm : X.mg x = none) (hv : bootBuiltins x = some (.type T)) (ha : JA X W (e :: es) mr) (hn : x ≠ "__name__" := by decide) (hdb : (x == ("__debug__" : Str)) = false := by decide)
    (he : starEach (e :: es) X.env = (false, eval e X.env) :: starEach es X.env := by rfl) (hpl : (backTo pos (starEach es X.env)).any (·.1) = false := by rfl) : JF X W (.Call (.Name x p) (e :: es) [] pos) (mN g mr) :=
  pe_imp (pe_callTy hc hg hm hv ha hn hdb he hpl) fun σ H Q h => opN_run hg' h
/-- a new object of frozen items -/
theorem mask_upd {H : Hp} {S : List Addr} {q : Addr} {o : HO} (hS : ∀ a ∈ S, H a ≠ none) (hq : H q = none) : mask (upd H q o) S q = some o := mask_some.mpr ⟨fun z => hS q z hq, upd_same⟩
theorem mask_new {H : Hp} {S : List Addr} {q : Addr} {o : HO} (hq : H q = none) : Ex (mask H S) (mask (upd H q o) S) := mask_mono fun a u n e => ⟨n, Ex.new hq a u e⟩
def lim (ds : List D) (d : D) : Option D := if ds.length ≤ 16777216 then some d else none
theorem j_tup {k : Nat} (h : JA X W es mr) : JF X W (.Tuple es k pos) (mN (fun ds => lim ds (.tup ds)) mr) := by
  refine pe_imp (pe_tup h) fun σ H Q h => ?_
  refine opN_run (r := fun xs H1 Q => xs.length ≤ sizeLine ∧ ∀ p, H1 p = none → Q (.ref p) (upd H1 p (.tup xs))) (fun S H ds c xs Q hS hr q k => ?_) h
  unfold lim at q
  split at q
  · rename_i hl
    cases q
    refine ⟨by rw [hr.length, sizeLine_eq]; exact hl, fun p hp => k _ _ (Ex.new hp) ⟨p, xs, rfl, .inl (.inl (mask_upd hS hp)), hr.ex (mask_new hp)⟩⟩
  · cases q
theorem j_lst (h : JA X W es mr) : JF X W (.List es pos) (mN (fun ds => lim ds (.lst ds)) mr) := by
  refine pe_imp (pe_lst h) fun σ H Q h => ?_
  refine opN_run (r := fun xs H1 Q => xs.length ≤ sizeLine ∧ ∀ p, H1 p = none → Q (.ref p) (upd H1 p (.lst xs))) (fun S H ds c xs Q hS hr q k => ?_) h
  unfold lim at q
  split at q
  · rename_i hl
    cases q
    refine ⟨by rw [hr.length, sizeLine_eq]; exact hl, fun p hp => k _ _ (Ex.new hp) ⟨p, xs, rfl, .inl (.inl (mask_upd hS hp)), hr.ex (mask_new hp)⟩⟩
  · cases q
end
end Mn
end
section
/-! Mn: statements, loops, defs and their calls. -/
namespace Mn
open PySem PySem.Spec PyProof.Rows L2

inductive Out where
  | nx | ret (d : D) (k : Kd) | cont | brk
abbrev MS := EV Out
/-- the first slot's value stays (a parameter that is changed in place) -/
def Keep (pin : Bool) (σ σ' : Sg) : Prop := pin = true → σ'[0]? = σ[0]?
theorem Keep.refl {pin : Bool} {σ : Sg} : Keep pin σ σ := fun _ => rfl
theorem Keep.trans {pin : Bool} {σ σ1 σ2 : Sg} (a : Keep pin σ σ1) (b : Keep pin σ1 σ2) : Keep pin σ σ2 := fun h => (b h).trans (a h)
theorem Keep.set {pin : Bool} {σ : Sg} {i : Nat} {x : Option V} (h : (pin && i == 0) = false) : Keep pin σ (σ.set i x) := fun hp => by
  subst hp
  have h1 : (i == 0) = false := by simpa using h
  have h2 : i ≠ 0 := by simpa using h1
  rw [List.getElem?_set_ne h2]
def PostS (K : Frag) (mg : Str → Option Value) (W : WX) (pin : Bool) (S0 S : List Addr) (σ : Sg) (H : Hp) (r : Option (Res Out × M)) (D : Ends) : Prop :=
  match r with
  | none => False
  | some (.ok .nx, μ') => ∀ S' H' σ', Gr S H S' H' → Keep pin σ σ' → R K S0 S' H' σ' μ' → D.nx σ' H'
  | some (.ok .cont, μ') => ∀ S' H' σ', Gr S H S' H' → Keep pin σ σ' → R K S0 S' H' σ' μ' → D.ct σ' H'
  | some (.ok .brk, μ') => ∀ S' H' σ', Gr S H S' H' → Keep pin σ σ' → R K S0 S' H' σ' μ' → D.bk σ' H'
  | some (.ok (.ret d k), μ') => ∀ S' H' σ' v, Gr S H S' H' → Keep pin σ σ' → R K S0 S' H' (some v :: σ') (some (d, k) :: μ') → D.rt v H'
  | some (.exn e, μ') => ∀ S' H' σ' cls dc, Gr S H S' H' → Keep pin σ σ' → R K S0 S' H' σ' μ' → ExR K mg (S0 ++ S') cls dc H' e → W cls dc σ' H'
theorem PostS.grow {K : Frag} {mg : Str → Option Value} {W : WX} {pin : Bool} {S0 S S1 : List Addr} {σ σ1 : Sg} {H H1 : Hp} {r : Option (Res Out × M)} {D : Ends} (g : Gr S H S1 H1) (kp : Keep pin σ σ1)
    (h : PostS K mg W pin S0 S σ H r D) : PostS K mg W pin S0 S1 σ1 H1 r D := by
  match r, h with
  | none, h => exact h
  | some (.ok .nx, μ'), h => exact fun S' H' σ' g' k' => h S' H' σ' (g.trans g') (kp.trans k')
  | some (.ok .cont, μ'), h => exact fun S' H' σ' g' k' => h S' H' σ' (g.trans g') (kp.trans k')
  | some (.ok .brk, μ'), h => exact fun S' H' σ' g' k' => h S' H' σ' (g.trans g') (kp.trans k')
  | some (.ok (.ret d k), μ'), h => exact fun S' H' σ' v g' k' => h S' H' σ' v (g.trans g') (kp.trans k')
  | some (.exn e, μ'), h => exact fun S' H' σ' cls dc g' k' => h S' H' σ' cls dc (g.trans g') (kp.trans k')
theorem PostS.bnd {α' β' : Type} {K : Frag} {mg : Str → Option Value} {W : WX} {pin : Bool} {S0 S : List Addr} {σ : Sg} {H : Hp} {Z' : List Addr → Hp → M → α' → β' → Prop} {a : EV α'} {f : α' → MS} {μ : M} {D : Ends} {Q' : β' → Hp → Prop}
    (h : PostS K mg W pin S0 S σ H (Mn.bnd a f μ) D)
    (k : ∀ S1 H1 μ1 x y, Gr S H S1 H1 → Z' S1 H1 μ1 x y → PostS K mg W pin S0 S1 σ H1 (f x μ1) D → Q' y H1) : Post K mg W S0 S σ H Z' (a μ) Q' := by
  rw [bnd_def] at h
  unfold Rs at h
  match q : a μ, h with
  | none, h => exact h
  | some (.ok x, μ'), h => exact fun S' H' b g z => k S' H' μ' x b g z (h.grow g Keep.refl)
  | some (.exn e, μ'), h => exact fun S' H' cls dc g r x => h S' H' σ cls dc g Keep.refl r x

def tS (K : Frag) (mg : Str → Option Value) (W : WX) (pin : Bool) (m : MS) : TS := fun D σ H => ∃ S0 S μ, R K S0 S H σ μ ∧ PostS K mg W pin S0 S σ H (m μ) D
abbrev JS (X : Cx) (W : WX) (pin : Bool) (st : Stmt) (m : MS) : Prop := PS X st (tS X.K X.mg W pin m)
abbrev JB (X : Cx) (W : WX) (pin : Bool) (sts : List Stmt) (m : MS) : Prop := PSs X sts (tS X.K X.mg W pin m)

def sq (b : MS) : Option (Res Out × M) → Option (Res Out × M)
  | some (.ok .nx, μ') => b μ'
  | some (.ok .cont, μ') => some (.ok .cont, μ')
  | some (.ok .brk, μ') => some (.ok .brk, μ')
  | some (.ok (.ret d k), μ') => some (.ok (.ret d k), μ')
  | some (.exn e, μ') => some (.exn e, μ')
  | none => none
def mSeq (a b : MS) : MS := fun μ => sq b (a μ)
section
variable {X : Cx} {W : WX} {pin : Bool} {st : Stmt} {rest : List Stmt} {a b : MS} {e c : Expr} {m : EV D} {mo : EV (D × Kd)} {pos p : Pos}
theorem seq_run {K : Frag} {mg : Str → Option Value} {D : Ends} {S0 S : List Addr} {σ : Sg} {H : Hp} {μ : M} (h : PostS K mg W pin S0 S σ H (mSeq a b μ) D) :
    PostS K mg W pin S0 S σ H (a μ) { D with nx := fun σ H => ∃ S0' S μ, R K S0' S H σ μ ∧ PostS K mg W pin S0' S σ H (b μ) D } := by
  unfold mSeq sq at h
  match q : a μ, h with
  | none, h => exact h
  | some (.ok .nx, μ'), h => exact fun S' H' σ' g k r => ⟨S0, S', μ', r, h.grow g k⟩
  | some (.ok .cont, μ'), h => exact h
  | some (.ok .brk, μ'), h => exact h
  | some (.ok (.ret d k'), μ'), h => exact h
  | some (.exn e, μ'), h => exact h
theorem jb_nil : JB X W pin [] (giv .nx) := pss_imp pss_nil fun D σ H h => by
  obtain ⟨S0, S, μ, r, h⟩ := h
  exact h S H σ Gr.refl Keep.refl r
theorem jb_one (h : JS X W pin st a) : JB X W pin [st] a := pss_one h
theorem jb_cons (h : JS X W pin st a) (h2 : JB X W pin rest b) : JB X W pin (st :: rest) (mSeq a b) := by
  refine pss_imp (pss_cons h h2) fun D σ H h => ?_
  obtain ⟨S0, S, μ, r, h⟩ := h
  exact ⟨S0, S, μ, r, seq_run h⟩
theorem js_pass : JS X W pin (.Pass pos) (giv .nx) := ps_imp ps_pass fun D σ H h => by
  obtain ⟨S0, S, μ, r, h⟩ := h
  exact h S H σ Gr.refl Keep.refl r
theorem js_cont : JS X W pin (.Continue pos) (giv .cont) := ps_imp ps_continue fun D σ H h => by
  obtain ⟨S0, S, μ, r, h⟩ := h
  exact h S H σ Gr.refl Keep.refl r
theorem js_retN : JS X W pin (.Return none pos) (giv (.ret .non .z)) := ps_imp ps_retN fun D σ H h => by
  obtain ⟨S0, S, μ, r, h⟩ := h
  exact h S H σ .non Gr.refl Keep.refl (r.push rfl)
def mRet (m : EV D) : MS := bnd m fun d => giv (.ret d .z)
def mRetO (m : EV (D × Kd)) : MS := bnd m fun d => giv (.ret d.1 d.2)
theorem js_ret (h : JF X W e m) : JS X W pin (.Return (some e) pos) (mRet m) := ps_imp (ps_ret h) fun D σ H h => by
  obtain ⟨S0, S, μ, r, h⟩ := h
  exact ⟨S0, S, μ, r, PostS.bnd (Z' := ZF X.K S0 σ) h fun S1 H1 μ1 d v g1 z1 h1 => h1 S1 H1 σ v Gr.refl Keep.refl (z1.1.push z1.2)⟩
theorem js_retO (h : JO X W e mo) : JS X W pin (.Return (some e) pos) (mRetO mo) := ps_imp (ps_ret h) fun D σ H h => by
  obtain ⟨S0, S, μ, r, h⟩ := h
  exact ⟨S0, S, μ, r, PostS.bnd (Z' := ZO X.K S0 σ) h fun S1 H1 μ1 d v g1 z1 h1 => h1 S1 H1 σ v Gr.refl Keep.refl z1⟩
/-- a value is stored -/
def put (i : Nat) (dk : D × Kd) : MS := fun μ => if i < μ.length then some (.ok .nx, μ.set i (some dk)) else none
def mSet (i : Nat) (m : EV D) : MS := bnd m fun d => put i (d, .z)
def mSetO (i : Nat) (m : EV (D × Kd)) : MS := bnd m fun d => put i d
theorem put_run {K : Frag} {mg : Str → Option Value} {D : Ends} {S0 S : List Addr} {σ : Sg} {H : Hp} {μ : M} {i : Nat} {dk : Mn.D × Kd} {v : V} (hp : (pin && i == 0) = false) (r : R K S0 S H (some v :: σ) (some dk :: μ))
    (h : PostS K mg W pin S0 S σ H (put i dk μ) D) : D.nx (σ.set i (some v)) H := by
  unfold put at h
  split at h
  · rename_i hi
    obtain ⟨d, k⟩ := dk
    have hl : σ.length = μ.length := by simpa using r.sl.len
    obtain ⟨S', sub, r'⟩ := r.store (i := i) (by rw [hl]; exact hi)
    exact h S' H _ (gr_sub sub) (Keep.set hp) r'
  · exact h.elim
theorem js_set {i : Nat} {x : Str} {pos' : Pos} (hp : (pin && i == 0) = false) (hN : X.N.Nodup) (hi : X.N[i]? = some x) (hx : Loc X.env.scope x) (he : JF X W e m) (hs : swapsWith e (some (.Name x pos')) pos.line X.env = pure false := by rfl) (hf : X.fn x = true ∨ X.env.scope.names.lookup x = some .local := by first | exact .inl rfl | exact .inr rfl | assumption) :
    JS X W pin (.Assign [.Name x pos'] e pos) (mSet i m) := ps_imp (ps_set hN hi hx he hs hf) fun D σ H h => by
  obtain ⟨S0, S, μ, r, h⟩ := h
  exact ⟨S0, S, μ, r, PostS.bnd (Z' := ZF X.K S0 σ) h fun S1 H1 μ1 d v g1 z1 h1 => put_run hp (z1.1.push z1.2) h1⟩
theorem js_setO {i : Nat} {x : Str} {pos' : Pos} (hp : (pin && i == 0) = false) (hN : X.N.Nodup) (hi : X.N[i]? = some x) (hx : Loc X.env.scope x) (he : JO X W e mo) (hs : swapsWith e (some (.Name x pos')) pos.line X.env = pure false := by rfl) (hf : X.fn x = true ∨ X.env.scope.names.lookup x = some .local := by first | exact .inl rfl | exact .inr rfl | assumption) :
    JS X W pin (.Assign [.Name x pos'] e pos) (mSetO i mo) := ps_imp (ps_set hN hi hx he hs hf) fun D σ H h => by
  obtain ⟨S0, S, μ, r, h⟩ := h
  exact ⟨S0, S, μ, r, PostS.bnd (Z' := ZO X.K S0 σ) h fun S1 H1 μ1 d v g1 z1 h1 => put_run hp z1 h1⟩
/-- x op= e, frozen values -/
def mAug (i : Nat) (g : D → D → Option D) (m : EV D) : MS := bnd (rdv i) fun x => bnd m fun y => bnd (opt (g x y)) fun z => put i (z, .z)
theorem js_aug {i : Nat} {x : Str} {op : Operator} {r : R2} {g : D → D → Option D} {pos' : Pos} (hp : (pin && i == 0) = false) (hN : X.N.Nodup) (hi : X.N[i]? = some x) (hx : Loc X.env.scope x) (ho : OpR X (inplaceOp op) r) (hg : Op2 X.K r g) (he : JF X W e m)
    (hf : X.fn x = true ∨ X.env.scope.names.lookup x = some .local := by first | exact .inl rfl | exact .inr rfl | assumption) : JS X W pin (.AugAssign (.Name x pos') op e pos) (mAug i g m) := ps_imp (ps_aug hN hi hx he (ti := r) ho hf) fun D σ H h => by
  obtain ⟨S0, S, μ, rr, h⟩ := h
  have key : ∀ {d : Mn.D} {v : V} {S1 : List Addr} {μ1 : M}, R X.K S0 S1 H σ μ1 → Gr S H S1 H → Rep X.K (mask H (S0 ++ S1)) d v → PostS X.K X.mg W pin S0 S1 σ H ((bnd m fun y => bnd (opt (g d y)) fun z => put i (z, .z)) μ1) D →
      tF X.K X.mg W m σ H fun y H1 => r v y H1 fun z H2 => D.nx (σ.set i (some z)) H2 := fun {d v S1 μ1} r1 g1 p1 h1 => by
    refine ⟨S0, S1, μ1, r1, PostS.bnd (Z' := ZF X.K S0 σ) h1 fun S2 H2 μ2 y u g2 z2 h2 => ?_⟩
    cases q : g d y with
    | none =>
      rw [q] at h2
      exact h2.elim
    | some c =>
      rw [q] at h2
      exact hg (S0 ++ S2) H2 d y c v u _ z2.1.tr (p1.ex g2.mask) z2.2 q fun w H3 ex p => put_run hp ((z2.1.ex ex).push p) (PostS.grow (Gr.ex ex) Keep.refl (show PostS X.K X.mg W pin S0 S2 σ H2 (put i (c, .z) μ2) D from h2))
  unfold mAug at h
  rw [bnd_def] at h
  unfold rdv at h
  cases q : μ[i]? with
  | none =>
    rw [q] at h
    exact h.elim
  | some o =>
    rw [q] at h
    cases o with
    | none => exact h.elim
    | some dk =>
      obtain ⟨d, k⟩ := dk
      cases k with
      | z =>
        obtain ⟨v, e1, p1⟩ := rr.read0 q
        exact ⟨v, e1, key rr Gr.refl p1 h⟩
      | s k =>
        obtain ⟨v, S', e1, sub, r', p1⟩ := rr.read q
        exact ⟨v, e1, key r' (gr_sub sub) p1 (h.grow (gr_sub sub) Keep.refl)⟩
def mDrop (m : EV D) : MS := bnd m fun _ => giv .nx
theorem js_expr (he : JF X W e m) (hs : swapsWith e none pos.line X.env = pure false := by rfl) : JS X W pin (.Expr e pos) (mDrop m) := ps_imp (ps_expr he hs) fun D σ H h => by
  obtain ⟨S0, S, μ, r, h⟩ := h
  exact ⟨S0, S, μ, r, PostS.bnd (Z' := ZF X.K S0 σ) h fun S1 H1 μ1 d v g1 z1 h1 => h1 S1 H1 σ Gr.refl Keep.refl z1.1⟩
theorem js_doc {x : Str} {j : Nat} {pos' : Pos} : JS X W pin (.Expr (.Constant (.str x) j pos) pos') (giv .nx) := ps_imp ps_doc fun D σ H h => by
  obtain ⟨S0, S, μ, r, h⟩ := h
  exact h S H σ Gr.refl Keep.refl r
variable {sa sb : List Stmt} {mt : EV Bool}
theorem js_if (hc : JT X W c mt) (ha : JB X W pin sa a) (hb : JB X W pin sb b) : JS X W pin (.If c sa sb pos) (mIf mt a b) := ps_imp (ps_if hc ha hb) fun D σ H h => by
  obtain ⟨S0, S, μ, r, h⟩ := h
  refine ⟨S0, S, μ, r, PostS.bnd (Z' := ZB X.K S0 σ) h fun S1 H1 μ1 d v g1 z1 h1 => ?_⟩
  obtain ⟨z1, e⟩ := z1
  subst e
  cases d with
  | true =>
    rw [if_pos rfl]
    exact ⟨S0, S1, μ1, z1, h1⟩
  | false =>
    rw [if_neg Bool.false_ne_true]
    exact ⟨S0, S1, μ1, z1, h1⟩
/-! loops -/
/-- behind a turn -/
def lp : Option (Res Out × M) → MS → Option (Res Out × M)
  | some (.ok .nx, μ'), next => next μ'
  | some (.ok .cont, μ'), next => next μ'
  | some (.ok .brk, μ'), _ => some (.ok .nx, μ')
  | some (.ok (.ret d k), μ'), _ => some (.ok (.ret d k), μ')
  | some (.exn e, μ'), _ => some (.exn e, μ')
  | none, _ => none
theorem lp_run {K : Frag} {mg : Str → Option Value} {D : Ends} {S0 S : List Addr} {σ : Sg} {H : Hp} {r : Option (Res Out × M)} {next : MS} {N : Sg → Hp → Prop} (h : PostS K mg W pin S0 S σ H (lp r next) D)
    (hN : ∀ S' H' σ' μ', Gr S H S' H' → Keep pin σ σ' → R K S0 S' H' σ' μ' → PostS K mg W pin S0 S' σ' H' (next μ') D → N σ' H') : PostS K mg W pin S0 S σ H r { D with nx := N, ct := N, bk := D.nx } := by
  match r, h with
  | none, h => exact h
  | some (.ok .nx, μ'), h => exact fun S' H' σ' g k r => hN S' H' σ' μ' g k r (h.grow g k)
  | some (.ok .cont, μ'), h => exact fun S' H' σ' g k r => hN S' H' σ' μ' g k r (h.grow g k)
  | some (.ok .brk, μ'), h => exact h
  | some (.ok (.ret d k'), μ'), h => exact h
  | some (.exn e, μ'), h => exact h
def mWh (t : EV Bool) (b : MS) : Nat → MS
  | 0 => fun _ => none
  | n + 1 => bnd t fun k => cond k (fun μ => lp (b μ) (mWh t b n)) (giv .nx)
theorem js_while {n : Nat} (hp : PassesOwn (model X.prog X.w) X.A X.env X.xe) (hc : JT X W c mt) (hb : JB X W pin sa a) : JS X W pin (.While c sa [] pos) (mWh mt a n) := ps_imp (ps_while hp hc hb) fun D σ H h => by
  refine ⟨fun n σ H => ∃ S0 S μ, R X.K S0 S H σ μ ∧ PostS X.K X.mg W pin S0 S σ H (mWh mt a n μ) D, ⟨n, h⟩, fun m σ H w => ?_⟩
  obtain ⟨S0, S, μ, r, h⟩ := w
  cases m with
  | zero => exact h.elim
  | succ m =>
    refine ⟨S0, S, μ, r, PostS.bnd (Z' := ZB X.K S0 σ) h fun S1 H1 μ1 d v g1 z1 h1 => ?_⟩
    obtain ⟨z1, e⟩ := z1
    subst e
    cases d with
    | true =>
      rw [if_pos rfl]
      refine ⟨fun σ' H' => ∃ S0 S μ, R X.K S0 S H' σ' μ ∧ PostS X.K X.mg W pin S0 S σ' H' (mWh mt a m μ) D, fun σ' H' w => ⟨m, Nat.lt_succ_self m, w⟩, S0, S1, μ1, z1, lp_run h1 fun S' H' σ' μ' g k r p => ⟨S0, S', μ', r, p⟩⟩
    | false =>
      rw [if_neg Bool.false_ne_true]
      exact h1 S1 H1 σ Gr.refl Keep.refl z1
/-- the iterator J gives the items ds, wherever what is frozen in F is -/
def ItD (K : Frag) (F : Hp) (ds : List D) (J : It) : Prop := ∀ (i : Nat) (S : List Addr) (H : Hp), (∀ a ∈ S, H a ≠ none) → Ex F (mask H S) →
  (∀ d, ds[i]? = some d → J.go i H ∧ ∀ x H', J.yld i H x H' → Ex H H' ∧ Rep K (mask H' S) d x) ∧ (ds.length ≤ i → J.stop i H)
def ZIt (K : Frag) (S0 : List Addr) (σ : Sg) : List Addr → Hp → M → List D → It → Prop := fun S H μ ds J => R K S0 S H σ μ ∧ ItD K (mask H (S0 ++ S)) ds J
def tI (K : Frag) (mg : Str → Option Value) (W : WX) (m : EV (List D)) : TI := fun σ H Q => ∃ S0 S μ, R K S0 S H σ μ ∧ Post K mg W S0 S σ H (ZIt K S0 σ) (m μ) Q
abbrev JI (X : Cx) (W : WX) (tg iter : Expr) (m : EV (List D)) : Prop := PI X tg iter (tI X.K X.mg W m)
/-- a target -/
abbrev TgE := D × Kd → M → Option M
def tG (K : Frag) (pin : Bool) (g : TgE) : TG := fun v σ H Q => ∃ S0 S μ dk, R K S0 S H (some v :: σ) (some dk :: μ) ∧ ∃ μ', g dk μ = some μ' ∧ ∀ S' σ', (∀ a ∈ S', a ∈ S) → Keep pin σ σ' → R K S0 S' H σ' μ' → Q σ' H
abbrev JG (X : Cx) (pin : Bool) (t : Expr) (g : TgE) : Prop := PG X t (tG X.K pin g)
theorem pg_imp {t : Expr} {g g' : TG} (h : PG X t g) (i : ∀ v σ H Q, g' v σ H Q → g v σ H Q) : PG X t g' := ⟨fun pins s σ H v u Q I r q => h.run pins s σ H v u Q I r (i v σ H Q q)⟩
theorem pgs_imp {t : List Expr} {g g' : TGs} (h : PGs X t g) (i : ∀ v σ H Q, g' v σ H Q → g v σ H Q) : PGs X t g' := ⟨fun pins s σ H v u Q I r q => h.run pins s σ H v u Q I r (i v σ H Q q)⟩
theorem pi_imp {tg : Expr} {t t' : TI} (h : PI X tg e t) (i : ∀ σ H Q, t' σ H Q → t σ H Q) : PI X tg e t' := ⟨fun pins s σ H Q I q => h.run pins s σ H Q I (i σ H Q q)⟩
def gN (i : Nat) : TgE := fun dk μ => if i < μ.length then some (μ.set i (some dk)) else none
theorem jg_name {i : Nat} {x : Str} (hp : (pin && i == 0) = false) (hN : X.N.Nodup) (hi : X.N[i]? = some x) (hx : Loc X.env.scope x) (hf : X.fn x = true ∨ X.env.scope.names.lookup x = some .local := by first | exact .inl rfl | exact .inr rfl | assumption) : JG X pin (.Name x pos) (gN i) := pg_imp (pg_name hN hi hx hf) fun v σ H Q h => by
  obtain ⟨S0, S, μ, dk, r, μ', e, h⟩ := h
  unfold gN at e
  split at e
  · rename_i hi
    cases e
    obtain ⟨d, k⟩ := dk
    have hl : σ.length = μ.length := by simpa using r.sl.len
    obtain ⟨S', sub, r'⟩ := r.store (i := i) (by rw [hl]; exact hi)
    exact h S' _ sub (Keep.set hp) r'
  · cases e
/-- several targets, of the items of a frozen tuple -/
abbrev TgsE := List D → M → Option M
def tGs (K : Frag) (pin : Bool) (g : TgsE) : TGs := fun vs σ H Q => ∃ S0 S μ ds, R K S0 S H σ μ ∧ Reps K (mask H (S0 ++ S)) ds vs ∧ ∃ μ', g ds μ = some μ' ∧ ∀ S' σ', (∀ a ∈ S', a ∈ S) → Keep pin σ σ' → R K S0 S' H σ' μ' → Q σ' H
abbrev JGs (X : Cx) (pin : Bool) (ts : List Expr) (g : TgsE) : Prop := PGs X ts (tGs X.K pin g)
def gsN : TgsE := fun ds μ => match ds with
  | [] => some μ
  | _ => none
def gsC (g : TgE) (gs : TgsE) : TgsE := fun ds μ => match ds with
  | d :: r => match g (d, .z) μ with
    | some μ' => gs r μ'
    | none => none
  | [] => none
theorem jgs_nil : JGs X pin [] gsN := pgs_imp pgs_nil fun v σ H Q h => by
  obtain ⟨S0, S, μ, ds, r, q, μ', e, h⟩ := h
  cases ds with
  | nil =>
    have ev : v = [] := q
    cases e
    exact ⟨ev, h S σ (fun _ z => z) Keep.refl r⟩
  | cons d ds => cases e
theorem jgs_cons {t : Expr} {ts : List Expr} {g : TgE} {gs : TgsE} (h1 : JG X pin t g) (h2 : JGs X pin ts gs) (hs : (assignEach (t :: ts) X.env).map (·.2) = assign t X.env :: (assignEach ts X.env).map (·.2) := by rfl) : JGs X pin (t :: ts) (gsC g gs) := pgs_imp (pgs_cons h1 h2 hs) fun v σ H Q h => by
  obtain ⟨S0, S, μ, ds, r, q, μ', e, h⟩ := h
  cases ds with
  | nil => cases e
  | cons d ds =>
    obtain ⟨x, xr, e1, q1, q2⟩ := q
    unfold gsC at e
    dsimp only at e
    cases eg : g (d, .z) μ with
    | none =>
      rw [eg] at e
      cases e
    | some μ1 =>
      rw [eg] at e
      refine ⟨x, xr, e1, S0, S, μ, (d, .z), r.push q1, μ1, eg, fun S' σ' sub kp r' => ?_⟩
      exact ⟨S0, S', μ1, ds, r', q2.ex (mask_sub sub), μ', e, fun S2 σ2 sub2 kp2 r2 => h S2 σ2 (fun a ha => sub a (sub2 a ha)) (kp.trans kp2) r2⟩
def gTp (n : Nat) (gs : TgsE) : TgE := fun dk μ => match dk with
  | (.tup ds, _) => if ds.length = n then gs ds μ else none
  | _ => none
theorem jg_tup {ts : List Expr} {k n : Nat} {gs : TgsE} (hc : X.calm = true) (h : JGs X pin ts gs) (hn : (assignEach ts X.env).length = n := by rfl) (hst : (assignEach ts X.env).findIdx? (·.1) = none := by rfl) : JG X pin (.Tuple ts k pos) (gTp n gs) := pg_imp (pg_tup hc h hn hst) fun v σ H Q h => by
  obtain ⟨S0, S, μ, dk, r, μ', e, h⟩ := h
  obtain ⟨d, k⟩ := dk
  obtain ⟨S1, sub, r1, q⟩ := r.pop
  cases d with
  | tup ds =>
    have e' : (if ds.length = n then gs ds μ else none) = some μ' := e
    split at e'
    · rename_i hl
      obtain ⟨a, vs, e1, q1, q2⟩ := q
      exact ⟨a, vs, e1, ex_t mask_ex q1, by rw [q2.length, hl], S0, S1, μ, ds, r1, q2, μ', e', fun S2 σ2 sub2 kp2 r2 => h S2 σ2 (fun a ha => sub a (sub2 a ha)) kp2 r2⟩
    · cases e'
  | _ => cases e
/-- a turn -/
def tn (b next : MS) : Option M → Option (Res Out × M)
  | none => none
  | some μ1 => lp (b μ1) next
/-- the turns of a for -/
def mTurns (g : TgE) (b : MS) : List D → MS
  | [] => giv .nx
  | d :: ds => fun μ => tn b (mTurns g b ds) (g (d, .z) μ)
def mFor (it : EV (List D)) (g : TgE) (b : MS) : MS := bnd it fun ds => mTurns g b ds
theorem js_for {tg iter : Expr} {mi : EV (List D)} {g : TgE} (hp : PassesOwn (model X.prog X.w) X.A X.env X.xe) (hc : X.calm = true) (hi : JI X W tg iter mi) (hg : JG X pin tg g) (hb : JB X W pin sa a)
    (hs : ∀ x, foldedSetIterable iter X.env x = pure x := by intro _; rfl) : JS X W pin (.For tg iter sa [] pos) (mFor mi g a) := ps_imp (ps_for hp hc hi hg hb hs) fun D σ H h => by
  obtain ⟨S0, S, μ, r, h⟩ := h
  refine ⟨S0, S, μ, r, PostS.bnd (Z' := ZIt X.K S0 σ) h fun S1 H1 μ1 ds J g1 z1 h1 => ?_⟩
  obtain ⟨r1, it1⟩ := z1
  refine ⟨fun i m σ2 H2 => m + i = ds.length ∧ ∃ S2 μ2, Gr S1 H1 S2 H2 ∧ R X.K S0 S2 H2 σ2 μ2 ∧ PostS X.K X.mg W pin S0 S2 σ2 H2 (mTurns g a (ds.drop i) μ2) D, ⟨ds.length, rfl, S1, μ1, Gr.refl, r1, by rw [List.drop_zero]; exact h1⟩, fun i m σ2 H2 w => ?_⟩
  obtain ⟨em, S2, μ2, g2, r2, h2⟩ := w
  obtain ⟨ig, is⟩ := it1 i (S0 ++ S2) H2 r2.tr g2.mask
  cases q : ds[i]? with
  | none =>
    have hl : ds.length ≤ i := List.getElem?_eq_none_iff.mp q
    rw [List.drop_eq_nil_of_le hl] at h2
    exact .inl ⟨is hl, h2 S2 H2 σ2 Gr.refl Keep.refl r2⟩
  | some d =>
    obtain ⟨hl, hd⟩ := List.getElem?_eq_some_iff.mp q
    rw [List.drop_eq_getElem_cons hl, hd] at h2
    obtain ⟨go, yl⟩ := ig d q
    refine .inr ⟨go, fun σ' H' => ∃ S' μ', Gr S1 H1 S' H' ∧ R X.K S0 S' H' σ' μ' ∧ PostS X.K X.mg W pin S0 S' σ' H' (mTurns g a (ds.drop (i + 1)) μ') D, fun σ' H' hN => ?_, fun x H' hy => ?_⟩
    · obtain ⟨S', μ', g', r', p'⟩ := hN
      exact ⟨m - 1, by omega, by omega, S', μ', g', r', p'⟩
    · obtain ⟨ex, p⟩ := yl x H' hy
      have r2' := r2.ex ex
      have h3 : PostS X.K X.mg W pin S0 S2 σ2 H' (tn a (mTurns g a (ds.drop (i + 1))) (g (d, .z) μ2)) D := PostS.grow (Gr.ex ex) Keep.refl h2
      cases eg : g (d, .z) μ2 with
      | none =>
        rw [eg] at h3
        exact h3.elim
      | some μ3 =>
        rw [eg] at h3
        refine ⟨S0, S2, μ2, (d, .z), r2'.push p, μ3, eg, fun S3 σ3 sub3 kp3 r3 => ?_⟩
        refine ⟨S0, S3, μ3, r3, lp_run (PostS.grow (gr_sub sub3) kp3 h3) fun S4 H4 σ4 μ4 g4 k4 r4 p4 => ?_⟩
        exact ⟨S4, μ4, g2.trans ((Gr.ex ex).trans ((gr_sub sub3).trans g4)), r4, p4⟩
/-- target = value -/
def ag : Option M → Option (Res Out × M)
  | none => none
  | some μ' => some (.ok .nx, μ')
def mAsg (m : EV D) (g : TgE) : MS := bnd m fun d => fun μ => ag (g (d, .z) μ)
theorem js_asg {tg : Expr} {g : TgE} (he : JF X W e m) (hg : JG X pin tg g) (hs : swapsWithSole [tg] e pos.line X.env = pure false := by rfl) (hw : swappedStores [tg] e X.env = pure none := by rfl) (h1 : (assignEach [tg] X.env).map (·.2) = [assign tg X.env] := by rfl) :
    JS X W pin (.Assign [tg] e pos) (mAsg m g) := ps_imp (ps_asg he hg hs hw h1) fun D σ H h => by
  obtain ⟨S0, S, μ, r, h⟩ := h
  refine ⟨S0, S, μ, r, PostS.bnd (Z' := ZF X.K S0 σ) h fun S1 H1 μ1 d v g1 z1 h1 => ?_⟩
  cases eg : g (d, .z) μ1 with
  | none =>
    rw [eg] at h1
    exact h1.elim
  | some μ2 =>
    rw [eg] at h1
    exact ⟨S0, S1, μ1, (d, .z), z1.1.push z1.2, μ2, eg, fun S2 σ2 sub kp r2 => h1 S2 H1 σ2 (gr_sub sub) kp r2⟩
end
/-! ### items of a list: walked -/
section
variable {X : Cx} {W : WX} {tg e : Expr} {m : EV D} {pos p : Pos}
def asItems : D → Option (List D)
  | .lst ds => some ds
  | .tup ds => some ds
  | _ => none
def mIt (f : D → Option (List D)) (m : EV D) : EV (List D) := bnd m fun d => opt (f d)
def asL : D → Option (List D)
  | .lst ds => some ds
  | _ => none
def asT : D → Option (List D)
  | .tup ds => some ds
  | _ => none
end
end Mn
end
section
/-! Mn: what is walked, defs and their calls, the operations. -/
namespace Mn
open PySem PySem.Spec PyProof.Rows L2
section
variable {X : Cx} {W : WX} {pin : Bool} {tg e : Expr} {es : List Expr} {m : EV D} {ms : EV (List D)} {pos p : Pos}
/-- a list or a tuple, whichever it is -/
def iSeq (K : Frag) (tl : TE) : TI := fun σ H R => tl σ H fun x H1 => ∃ a, x = .ref a ∧ (((∃ xs, SqL K H1 a xs) ∧ R (Itl K a) H1) ∨ ((∃ xs, SqT K H1 a xs) ∧ R (Itt K a) H1))
theorem pi_seq {l : Expr} {tl : TE} (hl : PE X l tl) : PI X tg l (iSeq X.K tl) := by
  refine ⟨fun pins s σ H R I h => ?_⟩
  refine thn (hl.run pins s σ H _ I h) fun v s1 ⟨x, H1, I1, r1, q1⟩ => ?_
  obtain ⟨a, e, q1⟩ := q1
  subst e
  cases r1
  rcases q1 with ⟨⟨xs, hq⟩, q⟩ | ⟨⟨xs, hq⟩, q⟩
  · obtain ⟨its, rv, p, hz⟩ := I1.list hq
    refine wpAny_pyIter_list p.isList ?_
    refine ⟨s1.heap.objs.size, [s1.heap.objs.size], _, _, H1, rfl, I1.kept (t' := s1.toks) fun b o e => Heap.get?_push_of_some _ e, turn_list a _, ⟨_, Heap.get?_push_size _ rfl, rfl, rfl⟩, fun b hb => ?_, q⟩
    have e : b = s1.heap.objs.size := by simpa using hb
    subst e
    exact I1.fpOk (Nat.le_refl _) (I1.hok.fresh (Nat.le_refl _))
  · obtain ⟨its, rv, p, hz⟩ := I1.tuple hq
    refine wpAny_pyIter_tuple (show s1.heap.IsTuple a its.toArray from p) ?_
    refine ⟨s1.heap.objs.size, [s1.heap.objs.size], _, _, H1, rfl, I1.kept (t' := s1.toks) fun b o e => Heap.get?_push_of_some _ e, turn_tuple a _, ⟨_, Heap.get?_push_size _ rfl, rfl, rfl⟩, fun b hb => ?_, q⟩
    have e : b = s1.heap.objs.size := by simpa using hb
    subst e
    exact I1.fpOk (Nat.le_refl _) (I1.hok.fresh (Nat.le_refl _))
theorem itd_list {K : Frag} {F : Hp} {a : Addr} {vs : List V} {ds : List D} (h : SqL K F a vs) (r : Reps K F ds vs) : ItD K F ds (Itl K a) := fun i S H hS ex => by
  have h' : SqL K H a vs := ex_l mask_ex (ex_l ex h)
  refine ⟨fun d q => ?_, fun hl => ⟨vs, h', by rw [r.length]; exact hl⟩⟩
  obtain ⟨v, q1, q2⟩ := r.get q
  refine ⟨⟨vs, v, h', q1⟩, fun x H' y => ?_⟩
  obtain ⟨e1, y⟩ := y
  subst e1
  have e2 : v = x := Option.some.inj (q1.symm.trans (y vs h'))
  subst e2
  exact ⟨Ex.refl _, q2.ex ex⟩
theorem itd_tup {K : Frag} {F : Hp} {a : Addr} {vs : List V} {ds : List D} (h : SqT K F a vs) (r : Reps K F ds vs) : ItD K F ds (Itt K a) := fun i S H hS ex => by
  have h' : SqT K H a vs := ex_t mask_ex (ex_t ex h)
  refine ⟨fun d q => ?_, fun hl => ⟨vs, h', by rw [r.length]; exact hl⟩⟩
  obtain ⟨v, q1, q2⟩ := r.get q
  refine ⟨⟨vs, v, h', q1⟩, fun x H' y => ?_⟩
  obtain ⟨e1, y⟩ := y
  subst e1
  have e2 : v = x := Option.some.inj (q1.symm.trans (y vs h'))
  subst e2
  exact ⟨Ex.refl _, q2.ex ex⟩
/-- for x in a list or tuple -/
theorem ji_seq (h : JF X W e m) : JI X W tg e (mIt asItems m) := pi_imp (pi_seq h) fun σ H Q h => by
  obtain ⟨S0, S, μ, r, h⟩ := h
  refine ⟨S0, S, μ, r, Post.bnd (Z' := ZF X.K S0 σ) h fun S1 H1 μ1 d v g1 z1 h1 => ?_⟩
  cases d with
  | lst ds =>
    obtain ⟨a, vs, e1, q1, q2⟩ := z1.2
    exact ⟨a, e1, .inl ⟨⟨vs, ex_l mask_ex q1⟩, h1 S1 H1 _ Gr.refl ⟨z1.1, itd_list q1 q2⟩⟩⟩
  | tup ds =>
    obtain ⟨a, vs, e1, q1, q2⟩ := z1.2
    exact ⟨a, e1, .inr ⟨⟨vs, ex_t mask_ex q1⟩, h1 S1 H1 _ Gr.refl ⟨z1.1, itd_tup q1 q2⟩⟩⟩
  | _ => exact h1.elim
/-- lo, lo + 1, .. below hi -/
def rangeD (lo hi : Int) : List D := (List.range (hi - lo).toNat).map fun (k : Nat) => .int (lo + k)
theorem itd_range {K : Frag} {F : Hp} {lo hi : Int} : ItD K F (rangeD lo hi) (Itr lo (hi - lo).toNat) := fun i S H hS ex => by
  refine ⟨fun d q => ?_, fun hl => by
    unfold rangeD at hl
    rw [List.length_map, List.length_range] at hl
    exact hl⟩
  unfold rangeD at q
  rw [List.getElem?_map] at q
  by_cases hi' : i < (hi - lo).toNat
  · rw [List.getElem?_range hi'] at q
    cases q
    refine ⟨hi', fun x H' y => ?_⟩
    obtain ⟨e1, e2⟩ := y
    subst e1
    exact ⟨Ex.refl _, e2⟩
  · rw [List.getElem?_eq_none (by simpa using hi')] at q
    cases q
def inR (j : Int) : Bool := decide (-4611686018427387904 ≤ j) && decide (j < 4611686018427387904)
theorem inR_ok {j : Int} (h : inR j = true) : -(2 ^ 62) ≤ j ∧ j < 2 ^ 62 := by
  have h2 := Bool.and_eq_true_iff.mp h
  have h3 := of_decide_eq_true h2.1
  have h4 := of_decide_eq_true h2.2
  omega
def rng1 : List D → Option (List D)
  | [.int j] => bif inR j then some (rangeD 0 j) else none
  | _ => none
def rng2 : List D → Option (List D)
  | [.int i, .int j] => bif inR i && inR j then some (rangeD i j) else none
  | _ => none
theorem rng1_ok {ds xs : List D} (h : rng1 ds = some xs) : ∃ j, ds = [.int j] ∧ inR j = true ∧ xs = rangeD 0 j := by
  unfold rng1 at h
  split at h
  · rename_i j
    cases e : inR j with
    | true =>
      rw [e] at h
      cases h
      exact ⟨j, rfl, e, rfl⟩
    | false =>
      rw [e] at h
      cases h
  · cases h
theorem rng2_ok {ds xs : List D} (h : rng2 ds = some xs) : ∃ i j, ds = [.int i, .int j] ∧ (inR i = true ∧ inR j = true) ∧ xs = rangeD i j := by
  unfold rng2 at h
  split at h
  · rename_i i j
    cases e : (inR i && inR j) with
    | true =>
      rw [e] at h
      cases h
      exact ⟨i, j, rfl, Bool.and_eq_true_iff.mp e, rfl⟩
    | false =>
      rw [e] at h
      cases h
  · cases h
def mRg (f : List D → Option (List D)) (a : EV (List D)) : EV (List D) := bnd a fun ds => opt (f ds)
theorem reps1 {K : Frag} {F : Hp} {d : D} {vs : List V} (h : Reps K F [d] vs) : ∃ v, vs = [v] ∧ Rep K F d v := by
  obtain ⟨v, r, e, h1, h2⟩ := h
  have e2 : r = [] := h2
  subst e2
  exact ⟨v, e, h1⟩
theorem reps2 {K : Frag} {F : Hp} {d d' : D} {vs : List V} (h : Reps K F [d, d'] vs) : ∃ v u, vs = [v, u] ∧ Rep K F d v ∧ Rep K F d' u := by
  obtain ⟨v, r, e, h1, h2⟩ := h
  obtain ⟨u, e2, h3⟩ := reps1 h2
  subst e2
  exact ⟨v, u, e, h1, h3⟩
theorem reps3 {K : Frag} {F : Hp} {d d' d2 : D} {vs : List V} (h : Reps K F [d, d', d2] vs) : ∃ v u w, vs = [v, u, w] ∧ Rep K F d v ∧ Rep K F d' u ∧ Rep K F d2 w := by
  obtain ⟨v, r, e, h1, h2⟩ := h
  obtain ⟨u, w, e2, h3, h4⟩ := reps2 h2
  subst e2
  exact ⟨v, u, w, e, h1, h3, h4⟩
theorem ji_range1 {a : Expr} (hg : Gl X "range") (hm : X.mg "range" = none) (ha : JA X W [a] ms) (hs : starEach [a] X.env = [(false, eval a X.env)] := by rfl) : JI X W tg (.Call (.Name "range" p) [a] [] pos) (mRg rng1 ms) := pi_imp (pi_range1 hg hm ha hs) fun σ H Q h => by
  obtain ⟨S0, S, μ, r, h⟩ := h
  refine ⟨S0, S, μ, r, Post.bnd (Z' := ZFs X.K S0 σ) h fun S1 H1 μ1 ds vs g1 z1 h1 => ?_⟩
  cases q : rng1 ds with
  | none =>
    rw [q] at h1
    exact h1.elim
  | some xs =>
    rw [q] at h1
    obtain ⟨j, e1, e2, e3⟩ := rng1_ok q
    subst e1
    subst e3
    obtain ⟨v, e, q⟩ := reps1 z1.2
    have e2' : v = .int j := q
    subst e2'
    have hc := inR_ok e2
    refine ⟨j, e, hc.1, hc.2, h1 S1 H1 _ Gr.refl ⟨z1.1, ?_⟩⟩
    have z := itd_range (K := X.K) (F := mask H1 (S0 ++ S1)) (lo := 0) (hi := j)
    rw [Int.sub_zero] at z
    exact z
theorem ji_range2 {a b : Expr} (hg : Gl X "range") (hm : X.mg "range" = none) (ha : JA X W [a, b] ms) (hs : starEach [a, b] X.env = [(false, eval a X.env), (false, eval b X.env)] := by rfl) (hs2 : starEach [b] X.env = [(false, eval b X.env)] := by rfl) : JI X W tg (.Call (.Name "range" p) [a, b] [] pos) (mRg rng2 ms) := pi_imp (pi_range2 hg hm ha hs hs2) fun σ H Q h => by
  obtain ⟨S0, S, μ, r, h⟩ := h
  refine ⟨S0, S, μ, r, Post.bnd (Z' := ZFs X.K S0 σ) h fun S1 H1 μ1 ds vs g1 z1 h1 => ?_⟩
  cases q : rng2 ds with
  | none =>
    rw [q] at h1
    exact h1.elim
  | some xs =>
    rw [q] at h1
    obtain ⟨i, j, e1, e2, e3⟩ := rng2_ok q
    subst e1
    subst e3
    obtain ⟨v, u, e, q, q'⟩ := reps2 z1.2
    have e4 : v = .int i := q
    have e5 : u = .int j := q'
    subst e4
    subst e5
    have hi := inR_ok e2.1
    have hj := inR_ok e2.2
    exact ⟨i, j, e, ⟨hi.1, hi.2, hj.1, hj.2⟩, h1 S1 H1 _ Gr.refl ⟨z1.1, itd_range⟩⟩
/-! ### a def -/
abbrev Sem := List D → Option (Res (D × Kd))
def endsOf : Option (Res Out × M) → Option (Res (D × Kd))
  | some (.ok (.ret d k), _) => some (.ok (d, k))
  | some (.ok .nx, _) => some (.ok (.non, .z))
  | some (.exn e, _) => some (.exn e)
  | _ => none
def mu0 (n : Nat) (ds : List D) : M := ds.map (fun d => some (d, .z)) ++ List.replicate (n - ds.length) none
/-- a def of n slots as a function of its arguments -/
def semF (p n : Nat) (m : MS) : Sem := fun ds => if ds.length = p then endsOf (m (mu0 n ds)) else none
theorem semF_len {p n : Nat} {m : MS} {ds : List D} (h : (semF p n m ds).isSome = true) : ds.length = p := by
  unfold semF at h
  split at h
  · assumption
  · cases h
/-- its promise; S: what the callers own -/
def spF (K : Frag) (mg : Str → Option Value) (n : Nat) (sem : Sem) : Sp := fun vs H Q E => ∃ ds S, (∀ a ∈ S, H a ≠ none) ∧ Reps K (mask H S) ds vs ∧ ds.length = n ∧ match sem ds with
  | none => False
  | some (.ok dk) => ∀ S' H' v, Gr [] H S' H' → R K S S' H' [some v] [some dk] → Q v H'
  | some (.exn e) => ∀ S' H' cls dc, Gr [] H S' H' → (∀ a ∈ S', H' a ≠ none) → ExR K mg (S ++ S') cls dc H' e → E cls dc H'
theorem spF_len {K : Frag} {mg : Str → Option Value} {n : Nat} {sem : Sem} (vs : List V) (H : Hp) (Q : VK) (E : XK) (h : spF K mg n sem vs H Q E) : vs.length = n := by
  obtain ⟨ds, S, _, r, e, _⟩ := h
  rw [r.length, e]
theorem sls_mu0 {K : Frag} {S : List Addr} {H : Hp} : ∀ {ds : List D} {vs : List V} {j : Nat}, Reps K (mask H S) ds vs → Sls (own K S H) (vs.map some ++ List.replicate j none) (ds.map (fun d => some (d, .z)) ++ List.replicate j none) []
  | [], vs, j, h => by
    have e : vs = [] := h
    subst e
    induction j with
    | zero => exact rfl
    | succ j ih => exact ih
  | d :: ds, vs, j, h => by
    obtain ⟨v, r, e, h1, h2⟩ := h
    subst e
    exact ⟨v, [], [], rfl, rfl, ⟨rfl, h1⟩, sls_mu0 h2⟩
theorem R.begin {K : Frag} {S : List Addr} {H : Hp} {N : List Str} {ds : List D} {vs : List V} (t : ∀ a ∈ S, H a ≠ none) (r : Reps K (mask H S) ds vs) : R K S [] H (L2.start N vs) (mu0 N.length ds) where
  t0 := t
  dis := fun _ z => nomatch z
  nd := List.nodup_nil
  sl := by
    unfold L2.start mu0
    rw [r.length, List.append_nil]
    exact sls_mu0 r
/-- the value alone -/
theorem R.head {K : Frag} {S0 S : List Addr} {H : Hp} {σ : List (Option V)} {μ : M} {dk : D × Kd} {v : V} (r : R K S0 S H (some v :: σ) (some dk :: μ)) : ∃ S', (∀ a ∈ S', a ∈ S) ∧ R K S0 S' H [some v] [some dk] := by
  obtain ⟨d, k⟩ := dk
  obtain ⟨v', S1, S2, e1, e2, h1, h2⟩ := id r.sl
  cases e1
  have nd := r.nd
  rw [e2] at nd
  have sub : ∀ a ∈ S1, a ∈ S := fun a ha => by
    rw [e2]
    exact List.mem_append_left _ ha
  exact ⟨S1, sub, r.shrink ⟨v, S1, [], rfl, by simp, h1, rfl⟩ sub (List.nodup_append.mp nd).1⟩
/-- THE RULE of a def whose arguments stay -/
theorem fnF {P : Program} {w : World} {K : Frag} {mg : Str → Option Value} {base : Heap} {x qual : Str} {params : Arguments} {body : List Stmt} {scope : Scope} {dvs : List V} {kws : List (Str × V)} {f : Addr} {fd : FuncData} {N ps : List Str} {k : Nat} {m : MS}
    (F : FunD K x qual params body scope dvs kws f fd) (S : FnScope N ps scope)
    (hb : ∀ (cdv : Value) (A : Around) (outer : List Env) (s : Shared) (H : Hp) (E : XK), Room k (A.deeper (envOfC qual scope s.heap.objs.size f cdv)) →
      JB (cxOf (L2.CX P w) P w K mg base N qual scope f cdv A outer s H E) (fun cls d _ H => E cls d H) false body m) :
    FnOk P w K mg base (L2.CX P w) (k + 1) f fd ps (spF K mg ps.length (semF ps.length N.length m)) := by
  refine F.ok S spF_len fun cdv A outer s H vs Q E hr h => ⟨_, hb cdv A outer s H E hr, ?_⟩
  obtain ⟨ds, S1, t, r, e, h⟩ := h
  refine ⟨S1, [], mu0 N.length ds, R.begin t r, ?_⟩
  unfold semF endsOf at h
  rw [if_pos e] at h
  match q : m (mu0 N.length ds), h with
  | some (.ok (.ret d k), μ'), h =>
    intro S' H' σ' v g kp r'
    obtain ⟨S2, sub, r2⟩ := r'.head
    exact h S2 H' v ⟨g.keep, fun a ha => g.new a (sub a ha)⟩ r2
  | some (.ok .nx, μ'), h =>
    intro S' H' σ' g kp r'
    exact h [] H' .non ⟨g.keep, (fun _ z => nomatch z)⟩ ⟨fun a ha => r'.t0 a ha, (fun _ z => nomatch z), List.nodup_nil, ⟨.non, [], [], rfl, rfl, ⟨rfl, rfl⟩, rfl⟩⟩
  | some (.exn e, μ'), h =>
    intro S' H' σ' cls dc g kp r' x
    exact h S' H' cls dc g (fun a ha => r'.tr a (List.mem_append_right _ ha)) x
  | some (.ok .cont, μ'), h =>
    exact h.elim
  | some (.ok .brk, μ'), h =>
    exact h.elim
  | none, h =>
    exact h.elim

/-! ### a call -/
def cl (μ : M) : Option (Res (D × Kd)) → Option (Res (D × Kd) × M)
  | none => none
  | some r => some (r, μ)
def mCall (sem : Sem) (a : EV (List D)) : EV (D × Kd) := bnd a fun ds => fun μ => cl μ (sem ds)
/-- behind a call: what the callee made is owned ahead -/
theorem R.after {K : Frag} {S0 S S' : List Addr} {H H' : Hp} {σ : List (Option V)} {μ : M} {dk : D × Kd} {v : V} (r : R K S0 S H σ μ) (g : Gr [] H S' H') (q : R K (S0 ++ S) S' H' [some v] [some dk]) : R K S0 (S' ++ S) H' (some v :: σ) (some dk :: μ) ∧ Gr S H (S' ++ S) H' := by
  have nw : ∀ a ∈ S', H a = none := fun a ha => (g.new a ha).elim (fun z => nomatch z) fun z => z
  have ex : Ex H H' := fun a o e => g.keep a o e fun z => nomatch z
  have dj : ∀ a ∈ S', a ∉ S := fun a ha hb => r.tr a (List.mem_append_right _ hb) (nw a ha)
  have dj0 : ∀ a ∈ S', a ∉ S0 := fun a ha hb => r.t0 a hb (nw a ha)
  obtain ⟨d, k⟩ := dk
  obtain ⟨v', S1, S2, e1, e2, h1, h2⟩ := q.sl
  cases e1
  have e3 : S2 = [] := h2
  subst e3
  rw [List.append_nil] at e2
  subst e2
  have m1 : Ex (mask H' (S0 ++ S ++ S')) (mask H' (S0 ++ (S' ++ S))) := mask_mono fun a o n e => ⟨fun z => n (by
    rcases List.mem_append.mp z with z | z
    · exact List.mem_append_left _ (List.mem_append_left _ z)
    · rcases List.mem_append.mp z with z | z
      · exact List.mem_append_right _ z
      · exact List.mem_append_left _ (List.mem_append_right _ z)), e⟩
  have m2 : Ex (mask H (S0 ++ S)) (mask H' (S0 ++ (S' ++ S))) := mask_mono fun a o n e => ⟨fun z => by
    rcases List.mem_append.mp z with z | z
    · exact n (List.mem_append_left _ z)
    · rcases List.mem_append.mp z with z | z
      · rw [nw a z] at e
        cases e
      · exact n (List.mem_append_right _ z), ex a o e⟩
  refine ⟨⟨(r.ex ex).t0, fun a ha => ?_, ?_, ⟨v, S', S, rfl, rfl, h1.mono m1 fun _ _ => rfl, r.sl.mono fun k d v T hT q => q.mono m2 fun a ha => ?_⟩⟩, ⟨fun a o e n => ex a o e, fun a ha => ?_⟩⟩
  · rcases List.mem_append.mp ha with ha | ha
    · exact dj0 a ha
    · exact r.dis a ha
  · exact List.nodup_append.mpr ⟨q.nd, r.nd, fun a ha b hb e => dj a ha (e ▸ hb)⟩
  · rcases List.mem_append.mp ha with ha | ha
    · exact .inr (nw a ha)
    · exact .inl ha
  · cases z : H a with
    | none => exact absurd z (r.tr a (List.mem_append_right _ (hT a ha)))
    | some o => rw [ex a o z]
theorem call_run {K : Frag} {mg : Str → Option Value} {n : Nat} {sem : Sem} {dvs : List V} {dds : List D} (hd : ∀ F, Reps K F dds dvs) (hn : ∀ ds, (sem (ds ++ dds)).isSome = true → (ds ++ dds).length = n) {σ : Sg} {H : Hp} {Q : VK} (h : tO K mg W (mCall sem (bnd ms fun ds => giv (ds ++ dds))) σ H Q) :
    tCallSD (spF K mg n sem) dvs (WE W) (tA K mg W ms) σ H Q := by
  obtain ⟨S0, S, μ, rr, h⟩ := h
  have h0 : Post K mg W S0 S σ H (ZO K S0 σ) (bnd ms (fun ds => fun μ => cl μ (sem (ds ++ dds))) μ) Q := by
    unfold mCall at h
    rw [bnd_def] at h ⊢
    rw [bnd_def] at h
    match q : ms μ, h with
    | none, h => exact h
    | some (.exn e, μ'), h => exact h
    | some (.ok ds, μ'), h => exact h
  refine ⟨S0, S, μ, rr, Post.bnd (Z' := ZFs K S0 σ) h0 fun S1 H1 μ1 ds vs g1 z1 h1 => ?_⟩
  refine ⟨ds ++ dds, S0 ++ S1, z1.1.tr, z1.2.append (hd _), ?_⟩
  match q : sem (ds ++ dds), h1 with
  | none, h1 => exact h1.elim
  | some (.ok dk), h1 =>
    refine ⟨hn ds (by rw [q]; rfl), ?_⟩
    intro S' H' v g r'
    obtain ⟨r2, g2⟩ := z1.1.after g r'
    exact h1 (S' ++ S1) H' v g2 r2
  | some (.exn e), h1 =>
    refine ⟨hn ds (by rw [q]; rfl), ?_⟩
    intro S' H' cls dc g t' x
    have ex : Ex H1 H' := fun a o e => g.keep a o e fun z => nomatch z
    refine h1 S1 H' cls dc (Gr.ex ex) (z1.1.ex ex) ?_
    obtain ⟨C, c1, c2, c3⟩ := x
    refine ⟨C, c1, c2, ?_⟩
    rcases c3 with c3 | ⟨dd, fvs, e1, e2, e3, e4, e5⟩
    · exact .inl c3
    · refine .inr ⟨dd, fvs, e1, e2, fun z => e3 (List.mem_append_left _ z), e4, e5.ex (mask_mono fun a o n e => ⟨fun z => n (List.mem_append_left _ z), e⟩)⟩
variable {k n : Nat} {f : Addr} {fd : FuncData} {ps : List Str} {sem : Sem} {x : Str}
/-- f(e, ..) -/
theorem jo_call {dvs : List V} {dds : List D} {ds : List Value} (F : FnOk X.prog X.w X.K X.mg X.base (L2.CX X.prog X.w) k f fd ps (spF X.K X.mg n sem)) (hr : Room k X.A) (hg : Gl X x) (hm : X.mg x = some (.ref f)) (hk : PySem.W.keepIn X.K (.ref f) = true) (hb : Binds X.K fd ps ds) (hdv : Vals dvs ds) (hdd : ∀ F, Reps X.K F dds dvs)
    (tk : Takes X W) (hn : ∀ ds, (sem (ds ++ dds)).isSome = true → (ds ++ dds).length = n) (ha : JA X W (e :: es) ms) (hdb : (x == ("__debug__" : Str)) = false := by decide) (he : starEach (e :: es) X.env = (false, eval e X.env) :: starEach es X.env := by rfl) (hpl : (backTo pos (starEach es X.env)).any (·.1) = false := by rfl) :
    JO X W (.Call (.Name x p) (e :: es) [] pos) (mCall sem (bnd ms fun ds => giv (ds ++ dds))) :=
  pe_imp (pe_callSD F hr hg hm hk hb hdv (E := WE W) (fun σ => passAt tk σ) ha hdb he hpl) fun σ H Q h => call_run hdd hn h
/-- the value frozen -/
def unO (m : EV (D × Kd)) : EV D := bnd m fun dk => giv dk.1
theorem j_unO {mo : EV (D × Kd)} (h : JO X W e mo) : JF X W e (unO mo) := pe_imp h fun σ H Q h => by
  obtain ⟨S0, S, μ, rr, h⟩ := h
  refine ⟨S0, S, μ, rr, Post.bnd (Z' := ZO X.K S0 σ) h fun S1 H1 μ1 dk v g1 z1 h1 => ?_⟩
  obtain ⟨d, k⟩ := dk
  obtain ⟨S', sub, r', q⟩ := R.pop z1
  exact h1 S' H1 v (gr_sub sub) ⟨r', q⟩
/-! ### raise -/
def mRaise (e : Exn) : MS := fun μ => some (.exn e, μ)
theorem js_raise {cls : Str} {C : Addr} {t : Sg → Hp → XK → Prop} (hc : X.calm = true) (tk : Takes X W) (he : PMk X e t) (hC : X.mg cls = some (.ref C)) (ht : ∀ σ H (Q : XK), Q (.ref C) none H → t σ H Q) : JS X W pin (.Raise (some e) none pos) (mRaise ⟨cls, []⟩) := ps_imp (ps_raise hc tk he) fun D σ H h => by
  obtain ⟨S0, S, μ, r, h⟩ := h
  exact ht σ H _ (h S H σ (.ref C) none Gr.refl Keep.refl r ⟨C, hC, rfl, .inl rfl⟩)
/-- a def that may be called by its name -/
def Cal (P : Program) (w : World) (K : Frag) (mg : Str → Option Value) (base : Heap) (k : Nat) (x : Str) (n : Nat) (sem : Sem) : Prop :=
  ∃ f fd ps, FnOk P w K mg base (L2.CX P w) k f fd ps (spF K mg n sem) ∧ mg x = some (.ref f) ∧ PySem.W.keepIn K (.ref f) = true ∧ Binds K fd ps [] ∧ ∀ ds, (sem ds).isSome = true → ds.length = n
/-- f(e, ..) of such a def -/
theorem jo_cal {j k n : Nat} {sem : Sem} {x : Str} (C : Cal X.prog X.w X.K X.mg X.base k x n sem) (hr : Room j X.A) (hj : k ≤ j) (hg : Gl X x) (tk : Takes X W) (ha : JA X W (e :: es) ms)
    (hdb : (x == ("__debug__" : Str)) = false := by decide) (he : starEach (e :: es) X.env = (false, eval e X.env) :: starEach es X.env := by rfl) (hpl : (backTo pos (starEach es X.env)).any (·.1) = false := by rfl) : JO X W (.Call (.Name x p) (e :: es) [] pos) (mCall sem ms) := by
  obtain ⟨f, fd, ps, F, hm, hk, hb, hn⟩ := C
  have z := jo_call (X := X) (W := W) (ms := ms) (p := p) (pos := pos) (dvs := []) (dds := []) F (hr.mono hj) hg hm hk hb .nil (fun _ => rfl) tk (fun ds q => by rw [List.append_nil] at q ⊢; exact hn ds q) ha hdb he hpl
  have e1 : (bnd ms fun ds => giv (ds ++ [])) = ms := by
    funext μ
    rw [bnd_def]
    match ms μ with
    | none => rfl
    | some (.exn e, μ') => rfl
    | some (.ok ds, μ') =>
      show some (Res.ok (ds ++ []), μ') = _
      rw [List.append_nil]
  rw [e1] at z
  exact z
abbrev j_cal {j k n : Nat} {sem : Sem} {x : Str} (C : Cal X.prog X.w X.K X.mg X.base k x n sem) (hr : Room j X.A) (hj : k ≤ j) (hg : Gl X x) (tk : Takes X W) (ha : JA X W (e :: es) ms)
    (hdb : (x == ("__debug__" : Str)) = false := by decide) (he : starEach (e :: es) X.env = (false, eval e X.env) :: starEach es X.env := by rfl) (hpl : (backTo pos (starEach es X.env)).any (·.1) = false := by rfl) : JF X W (.Call (.Name x p) (e :: es) [] pos) (unO (mCall sem ms)) := j_unO (jo_cal C hr hj hg tk ha hdb he hpl)
theorem cal_of {P : Program} {w : World} {K : Frag} {mg : Str → Option Value} {base : Heap} {x qual : Str} {params : Arguments} {body : List Stmt} {scope : Scope} {f : Addr} {N ps : List Str} {k : Nat} {m : MS}
    (F : ∃ fd, FunD K x qual params body scope [] [] f fd) (S : FnScope N ps scope) (gx : mg x = some (.ref f)) (hb : ∀ (fd : FuncData), FunD K x qual params body scope [] [] f fd → Binds K fd ps [])
    (h : ∀ (cdv : Value) (A : Around) (outer : List Env) (s : Shared) (H : Hp) (E : XK), Room k (A.deeper (envOfC qual scope s.heap.objs.size f cdv)) → Takes (cxOf (L2.CX P w) P w K mg base N qual scope f cdv A outer s H E) (fun cls d _ H => E cls d H) →
      JB (cxOf (L2.CX P w) P w K mg base N qual scope f cdv A outer s H E) (fun cls d _ H => E cls d H) false body m) : Cal P w K mg base (k + 1) x ps.length (semF ps.length N.length m) := by
  obtain ⟨fd, F⟩ := F
  exact ⟨f, fd, ps, fnF F S fun cdv A outer s H E hr => h cdv A outer s H E hr (takes_of (E := E) rfl rfl rfl rfl), gx, F.kp, hb fd F, fun ds q => semF_len q⟩
theorem j_gint {x : Str} {i : Int} (hg : Gl X x) (hm : ∃ t, X.mg x = some (.int i t)) (hd : (x == ("__debug__" : Str)) = false := by decide) : JF X W (.Name x p) (giv (.int i)) := by
  obtain ⟨t, hm⟩ := hm
  exact j_glob hg hm (v := .int i) ⟨t, rfl⟩ (fun _ => rfl) hd
/-- what the top has written of an exception class without __init__ -/
structure ExcF (K : Frag) (mg : Str → Option Value) (x : Str) : Prop where
  ex : ∃ C, mg x = some (.ref C) ∧ PySem.W.excIn K C He.veBase "ValueError.__new__" = true ∧ PySem.W.keepIn K (.ref C) = true ∧ PySem.W.subIn K (.ref C) (.type "BaseException") = some true ∧ PySem.W.typeIn K (.ref C) = some (.type "type")
/-- raise C('..') -/
theorem js_raise0 {x m : Str} {j : Nat} {p p2 pos pos2 : Pos} (hc : X.calm = true) (T : ExcF X.K X.mg x) (hg : Gl X x) (tk : Takes X W) (hdb : (x == ("__debug__" : Str)) = false := by decide) : JS X W pin (.Raise (some (.Call (.Name x p) [.Constant (.str m) j p2] [] pos)) none pos2) (mRaise ⟨x, []⟩) := by
  obtain ⟨C, gC, q, kC, bC, tC⟩ := T.ex
  exact js_raise hc tk (pmk_own PySem.F.excBase_ValueError q gC kC (raises_own bC tC) hg hdb) gC fun σ H Q z => z
end
end Mn
end
section
/-! Mn: a first argument that is changed in place; items of owned lists; the operations. -/
namespace Mn
open PySem PySem.Spec PyProof.Rows L2

/-! ### defs that change their first argument -/
abbrev SemIO := D × Kd → List D → Option (Res (D × Kd) × (D × Kd))
def endsIO : Option (Res Out × M) → Option (Res (D × Kd) × (D × Kd))
  | some (.ok (.ret d k), some dk :: _) => some (.ok (d, k), dk)
  | some (.ok .nx, some dk :: _) => some (.ok (.non, .z), dk)
  | some (.exn e, some dk :: _) => some (.exn e, dk)
  | _ => none
def semIO (p n : Nat) (m : MS) : SemIO := fun dk ds => if ds.length + 1 = p then endsIO (m (some dk :: mu0 (n - 1) ds)) else none
theorem semIO_len {p n : Nat} {m : MS} {dk : D × Kd} {ds : List D} (h : (semIO p n m dk ds).isSome = true) : ds.length + 1 = p := by
  unfold semIO at h
  split at h
  · assumption
  · cases h
def spIO (K : Frag) (mg : Str → Option Value) (n : Nat) (sem : SemIO) : Sp := fun vs H Q E => ∃ v0 rest dk0 ds S0 S, vs = v0 :: rest ∧ ds.length + 1 = n ∧ R K S0 S H [some v0] [some dk0] ∧ Reps K (mask H (S0 ++ S)) ds rest ∧ match sem dk0 ds with
  | none => False
  | some (.ok dk, dk0') => ∀ S' H' v, Gr S H S' H' → R K S0 S' H' [some v, some v0] [some dk, some dk0'] → Q v H'
  | some (.exn e, dk0') => ∀ S' H' cls dc, Gr S H S' H' → R K S0 S' H' [some v0] [some dk0'] → ExR K mg (S0 ++ S') cls dc H' e → E cls dc H'
theorem spIO_len {K : Frag} {mg : Str → Option Value} {n : Nat} {sem : SemIO} (vs : List V) (H : Hp) (Q : VK) (E : XK) (h : spIO K mg n sem vs H Q E) : vs.length = n := by
  obtain ⟨v0, rest, dk0, ds, S0, S, e, e2, _, r, _⟩ := h
  rw [e, List.length_cons, r.length, e2]
theorem Sls.app_none {f : Kd → D → V → List Addr → Prop} : ∀ {σ : List (Option V)} {μ : M} {S : List Addr} {τ : List (Option V)} {ν : M}, Sls f σ μ S → Sls f τ ν [] → Sls f (σ ++ τ) (μ ++ ν) S
  | [], [], _, τ, ν, h, q => by
    have e : _ = [] := h
    subst e
    exact q
  | x :: σ, none :: μ, S, τ, ν, h, q => by
    have h' : Sls f σ μ S := h
    exact h'.app_none q
  | x :: σ, some (d, k) :: μ, S, τ, ν, h, q => by
    obtain ⟨v, S1, S2, e1, e2, h1, h2⟩ := h
    exact ⟨v, S1, S2, e1, e2, h1, h2.app_none q⟩
  | [], _ :: _, _, _, _, h, _ => h.elim
  | _ :: _, [], _, _, _, h, _ => h.elim
theorem Sls.prefix {f : Kd → D → V → List Addr → Prop} : ∀ {σ : List (Option V)} {μ : M} {S : List Addr} (n : Nat), Sls f σ μ S → ∃ S', Sls f (σ.take n) (μ.take n) S' ∧ S'.Sublist S
  | [], [], S, n, h => by
    cases n <;> exact ⟨S, h, List.Sublist.refl _⟩
  | x :: σ, y :: μ, S, 0, h => ⟨[], rfl, List.nil_sublist _⟩
  | x :: σ, none :: μ, S, n + 1, h => by
    have h' : Sls f σ μ S := h
    obtain ⟨S', h1, h2⟩ := h'.prefix n
    exact ⟨S', h1, h2⟩
  | x :: σ, some (d, k) :: μ, S, n + 1, h => by
    obtain ⟨v, S1, S2, e1, e2, h1, h2⟩ := h
    obtain ⟨S', h3, h4⟩ := h2.prefix n
    exact ⟨S1 ++ S', ⟨v, S1, S', e1, rfl, h1, h3⟩, by rw [e2]; exact List.Sublist.append_left h4 S1⟩
  | [], _ :: _, _, _, h => h.elim
  | _ :: _, [], _, _, h => h.elim
theorem R.prefix {K : Frag} {S0 S : List Addr} {H : Hp} {σ : List (Option V)} {μ : M} (r : R K S0 S H σ μ) (n : Nat) : ∃ S', (∀ a ∈ S', a ∈ S) ∧ R K S0 S' H (σ.take n) (μ.take n) := by
  obtain ⟨S', h, p⟩ := r.sl.prefix n
  exact ⟨S', fun a ha => p.subset ha, r.shrink h (fun a ha => p.subset ha) (p.nodup r.nd)⟩
theorem fnIO {P : Program} {w : World} {K : Frag} {mg : Str → Option Value} {base : Heap} {x qual : Str} {params : Arguments} {body : List Stmt} {scope : Scope} {dvs : List V} {kws : List (Str × V)} {f : Addr} {fd : FuncData} {N ps : List Str} {k : Nat} {m : MS}
    (F : FunD K x qual params body scope dvs kws f fd) (S : FnScope N ps scope) (hN : 0 < N.length)
    (hb : ∀ (cdv : Value) (A : Around) (outer : List Env) (s : Shared) (H : Hp) (E : XK), Room k (A.deeper (envOfC qual scope s.heap.objs.size f cdv)) →
      JB (cxOf (L2.CX P w) P w K mg base N qual scope f cdv A outer s H E) (fun cls d _ H => E cls d H) true body m) :
    FnOk P w K mg base (L2.CX P w) (k + 1) f fd ps (spIO K mg ps.length (semIO ps.length N.length m)) := by
  refine F.ok S spIO_len fun cdv A outer s H vs Q E hr h => ⟨_, hb cdv A outer s H E hr, ?_⟩
  obtain ⟨v0, rest, dk0, ds, S0, S1, e, e2, r, q, h⟩ := h
  subst e
  have es : L2.start N (v0 :: rest) = [some v0] ++ (rest.map some ++ List.replicate (N.length - 1 - ds.length) none) := by
    unfold L2.start
    rw [List.length_cons, q.length, List.map_cons]
    have : N.length - (ds.length + 1) = N.length - 1 - ds.length := by omega
    rw [this]
    rfl
  have hR : R K S0 S1 H (L2.start N (v0 :: rest)) (some dk0 :: mu0 (N.length - 1) ds) := by
    rw [es]
    exact ⟨r.t0, r.dis, r.nd, r.sl.app_none (sls_mu0 q)⟩
  refine ⟨S0, S1, some dk0 :: mu0 (N.length - 1) ds, hR, ?_⟩
  have e0 : (L2.start N (v0 :: rest))[0]? = some (some v0) := by
    rw [es]
    rfl
  have two : ∀ {S' : List Addr} {H' : Hp} {σ' : Sg} {μ' : M} {dk0' : D × Kd}, Keep true (L2.start N (v0 :: rest)) σ' → R K S0 S' H' σ' (some dk0' :: μ') → ∃ σ2, σ' = some v0 :: σ2 := fun {S' H' σ' μ' dk0'} kp r' => by
    have h0 := (kp rfl).trans e0
    cases σ' with
    | nil => simp at h0
    | cons y σ2 =>
      have h1 : y = some v0 := by simpa using h0
      exact ⟨σ2, by rw [h1]⟩
  unfold semIO at h
  rw [if_pos e2] at h
  match q2 : m (some dk0 :: mu0 (N.length - 1) ds), h with
  | some (.ok (.ret d k), some dk0' :: μ'), h =>
    intro S' H' σ' v g kp r'
    have rr : R K S0 S' H' (some v :: σ') (some (d, k) :: some dk0' :: μ') := r'
    have hl := rr.sl.len
    obtain ⟨σ2, e3⟩ : ∃ σ2, σ' = some v0 :: σ2 := by
      have h0 := (kp rfl).trans e0
      cases σ' with
      | nil => simp at h0
      | cons y σ2 =>
        have h1 : y = some v0 := by simpa using h0
        exact ⟨σ2, by rw [h1]⟩
    subst e3
    obtain ⟨S2, sub, r2⟩ := rr.prefix 2
    exact h S2 H' v ⟨g.keep, fun a ha => g.new a (sub a ha)⟩ r2
  | some (.ok .nx, some dk0' :: μ'), h =>
    intro S' H' σ' g kp r'
    have r'' : R K S0 S' H' σ' (some dk0' :: μ') := r'
    obtain ⟨σ2, e3⟩ := two kp r''
    subst e3
    obtain ⟨S2, sub, r2⟩ := (r''.push (d := .non) (v := .non) rfl).prefix 2
    exact h S2 H' .non ⟨g.keep, fun a ha => g.new a (sub a ha)⟩ r2
  | some (.exn e, some dk0' :: μ'), h =>
    intro S' H' σ' cls dc g kp r' x
    have r'' : R K S0 S' H' σ' (some dk0' :: μ') := r'
    obtain ⟨σ2, e3⟩ := two kp r''
    subst e3
    obtain ⟨S2, sub, r2⟩ := r''.prefix 1
    refine h S2 H' cls dc ⟨g.keep, fun a ha => g.new a (sub a ha)⟩ r2 ?_
    obtain ⟨C, c1, c2, c3⟩ := x
    refine ⟨C, c1, c2, ?_⟩
    rcases c3 with c3 | ⟨dd, fvs, e1, e2, e3, e4, e5⟩
    · exact .inl c3
    · exact .inr ⟨dd, fvs, e1, e2, fun z => e3 (by
        rcases List.mem_append.mp z with z | z
        · exact List.mem_append_left _ z
        · exact List.mem_append_right _ (sub _ z)), e4, e5.ex (mask_sub sub)⟩
  | some (.ok (.ret d k), none :: μ'), h => exact h.elim
  | some (.ok (.ret d k), []), h => exact h.elim
  | some (.ok .nx, none :: μ'), h => exact h.elim
  | some (.ok .nx, []), h => exact h.elim
  | some (.exn e, none :: μ'), h => exact h.elim
  | some (.exn e, []), h => exact h.elim
  | some (.ok .cont, μ'), h => exact h.elim
  | some (.ok .brk, μ'), h => exact h.elim
  | none, h => exact h.elim

section
variable {X : Cx} {W : WX} {pin : Bool} {tg e : Expr} {es : List Expr} {m mi : EV D} {ms : EV (List D)} {pos p : Pos}
/-- a slot that holds something -/
def hs {α : Type} (r : Option (Res α × M)) : Option (Option (D × Kd)) → Option (Res α × M)
  | some (some _) => r
  | _ => none
def has (i : Nat) {α : Type} (a : EV α) : EV α := fun μ => hs (a μ) μ[i]?
theorem has_run {α β : Type} {K : Frag} {mg : Str → Option Value} {S0 S : List Addr} {σ : Sg} {H : Hp} {Z : List Addr → Hp → M → α → β → Prop} {i : Nat} {a : EV α} {μ : M} {Q : β → Hp → Prop} (h : Post K mg W S0 S σ H Z (has i a μ) Q) (r : R K S0 S H σ μ) :
    ∃ v, σ[i]? = some (some v) ∧ Post K mg W S0 S σ H Z (a μ) Q := by
  unfold has hs at h
  split at h
  · rename_i x dk q
    obtain ⟨d, k⟩ := dk
    obtain ⟨v, S1, S2, e1, _⟩ := r.sl.take q
    exact ⟨v, e1, h⟩
  · exact h.elim
theorem has_runS {K : Frag} {mg : Str → Option Value} {S0 S : List Addr} {σ : Sg} {H : Hp} {i : Nat} {a : MS} {μ : M} {En : Ends} (h : PostS K mg W pin S0 S σ H (has i a μ) En) (r : R K S0 S H σ μ) :
    ∃ v, σ[i]? = some (some v) ∧ PostS K mg W pin S0 S σ H (a μ) En := by
  unfold has hs at h
  split at h
  · rename_i x dk q
    obtain ⟨d, k⟩ := dk
    obtain ⟨v, S1, S2, e1, _⟩ := r.sl.take q
    exact ⟨v, e1, h⟩
  · exact h.elim
/-- f(x, e, ..): x, in slot i, is changed in place -/
def ci (i : Nat) (μ : M) : Option (Res (D × Kd) × (D × Kd)) → Option (Res (D × Kd) × M)
  | none => none
  | some (r, dk0') => some (r, μ.set i (some dk0'))
def cj (i : Nat) (sem : SemIO) (ds : List D) (μ : M) : Option (Option (D × Kd)) → Option (Res (D × Kd) × M)
  | some (some dk0) => ci i μ (sem dk0 ds)
  | _ => none
def mCallIO (i : Nat) (sem : SemIO) (a : EV (List D)) : EV (D × Kd) := has i (bnd a fun ds => fun μ => cj i sem ds μ μ[i]?)
/-- a slot's value lent to a callee, and back -/
theorem R.lend {K : Frag} {S0 S : List Addr} {H : Hp} {σ : List (Option V)} {μ : M} {i : Nat} {d : D} {k : Kd} {v : V} (r : R K S0 S H σ μ) (h : μ[i]? = some (some (d, k))) (hv : σ[i]? = some (some v)) :
    ∃ Sa Sb, R K (S0 ++ Sb) Sa H [some v] [some (d, k)] ∧ Ex (mask H (S0 ++ S)) (mask H (S0 ++ Sb ++ Sa)) ∧ (∀ a ∈ Sa, a ∈ S) ∧ (∀ a ∈ Sb, a ∈ S) ∧ (∀ a ∈ S, a ∈ Sa ∨ a ∈ Sb) ∧
      (∀ {H' : Hp} {S' : List Addr} {τ : List (Option V)} {ν : M} {dk' : D × Kd}, Gr Sa H S' H' → R K (S0 ++ Sb) S' H' (τ ++ [some v]) (ν ++ [some dk']) → τ.length = ν.length → ∃ S2, Gr S H S2 H' ∧ R K S0 S2 H' (τ ++ σ) (ν ++ μ.set i (some dk')) ∧ (∀ a, a ∈ S2 ↔ a ∈ S' ∨ a ∈ Sb)) := by
  obtain ⟨v', Sa, Sb, e1, h1, h2, p⟩ := r.sl.take h
  rw [hv] at e1
  cases e1
  have ma : ∀ a ∈ Sa, a ∈ S := fun a ha => p.mem_iff.mpr (List.mem_append_left _ ha)
  have mb : ∀ a ∈ Sb, a ∈ S := fun a ha => p.mem_iff.mpr (List.mem_append_right _ ha)
  have mm : ∀ a ∈ S, a ∈ Sa ∨ a ∈ Sb := fun a ha => List.mem_append.mp (p.mem_iff.mp ha)
  have nd : (Sa ++ Sb).Nodup := p.nodup_iff.mp r.nd
  have dj : ∀ a ∈ Sa, a ∉ Sb := fun a ha hb => (List.nodup_append.mp nd).2.2 a ha a hb rfl
  have ex : Ex (mask H (S0 ++ S)) (mask H (S0 ++ Sb ++ Sa)) := mask_mono fun a o n e => ⟨fun z => n (by
    rcases List.mem_append.mp z with z | z
    · rcases List.mem_append.mp z with z | z
      · exact List.mem_append_left _ z
      · exact List.mem_append_right _ (mb a z)
    · exact List.mem_append_right _ (ma a z)), e⟩
  refine ⟨Sa, Sb, ⟨fun a ha => ?_, fun a ha z => ?_, (List.nodup_append.mp nd).1, ⟨v, Sa, [], rfl, by simp, h1.mono ex fun _ _ => rfl, rfl⟩⟩, ex, ma, mb, mm, fun {H' S' τ ν dk'} g q hl => ?_⟩
  · rcases List.mem_append.mp ha with ha | ha
    · exact r.t0 a ha
    · exact r.tr a (List.mem_append_right _ (mb a ha))
  · rcases List.mem_append.mp z with z | z
    · exact r.dis a (ma a ha) z
    · exact dj a ha z
  · obtain ⟨d', k'⟩ := dk'
    -- the callee's part split: temporaries, the value lent
    have split : ∀ {τ : List (Option V)} {ν : M} {T : List Addr}, τ.length = ν.length → Sls (own K (S0 ++ Sb ++ S') H') (τ ++ [some v]) (ν ++ [some (d', k')]) T → ∃ T1 T2, T = T1 ++ T2 ∧ Sls (own K (S0 ++ Sb ++ S') H') τ ν T1 ∧ own K (S0 ++ Sb ++ S') H' k' d' v T2 := by
      intro τ
      induction τ with
      | nil =>
        intro ν T hl hs
        cases ν with
        | nil =>
          obtain ⟨u, T1, T2, e1, e2, q1, q2⟩ := hs
          cases e1
          have e3 : T2 = [] := q2
          subst e3
          exact ⟨[], T1, by rw [e2]; simp, rfl, q1⟩
        | cons y ν => simp at hl
      | cons x τ ih =>
        intro ν T hl hs
        cases ν with
        | nil => simp at hl
        | cons y ν =>
          cases y with
          | none =>
            have hs' : Sls (own K (S0 ++ Sb ++ S') H') (τ ++ [some v]) (ν ++ [some (d', k')]) T := hs
            obtain ⟨T1, T2, e1, q1, q2⟩ := ih (by simpa using hl) hs'
            exact ⟨T1, T2, e1, q1, q2⟩
          | some dk =>
            obtain ⟨d1, k1⟩ := dk
            obtain ⟨u, U1, U2, e1, e2, q1, q2⟩ := hs
            obtain ⟨T1, T2, e3, q3, q4⟩ := ih (by simpa using hl) q2
            exact ⟨U1 ++ T1, T2, by rw [e2, e3, List.append_assoc], ⟨u, U1, T1, e1, rfl, q1, q3⟩, q4⟩
    obtain ⟨T1, T2, eT, q1, q2⟩ := split hl q.sl
    have mT1 : ∀ a ∈ T1, a ∈ S' := fun a ha => by rw [eT]; exact List.mem_append_left _ ha
    have mT2 : ∀ a ∈ T2, a ∈ S' := fun a ha => by rw [eT]; exact List.mem_append_right _ ha
    have ndT : (T1 ++ T2).Nodup := by rw [← eT]; exact q.nd
    have new : ∀ a ∈ S', a ∈ Sa ∨ H a = none := g.new
    have djb : ∀ a ∈ S', a ∉ Sb := fun a ha hb => q.dis a ha (List.mem_append_right _ hb)
    have dj0 : ∀ a ∈ S', a ∉ S0 := fun a ha hb => q.dis a ha (List.mem_append_left _ hb)
    have hi : i < σ.length := (List.getElem?_eq_some_iff.mp hv).1
    -- the rest, in the heap as it is now, without what is owned now
    have m1 : Ex (mask H' (S0 ++ Sb ++ S')) (mask H' (S0 ++ (S' ++ Sb))) := mask_mono fun a o n e => ⟨fun z => n (by
      rcases List.mem_append.mp z with z | z
      · exact List.mem_append_left _ (List.mem_append_left _ z)
      · rcases List.mem_append.mp z with z | z
        · exact List.mem_append_right _ z
        · exact List.mem_append_left _ (List.mem_append_right _ z)), e⟩
    have m2 : Ex (mask H (S0 ++ S)) (mask H' (S0 ++ (S' ++ Sb))) := mask_mono fun a o n e => by
      have n0 : a ∉ S0 := fun z => n (List.mem_append_left _ z)
      have n1 : a ∉ S := fun z => n (List.mem_append_right _ z)
      refine ⟨fun z => ?_, g.keep a o e fun z => n1 (ma a z)⟩
      rcases List.mem_append.mp z with z | z
      · exact n0 z
      · rcases List.mem_append.mp z with z | z
        · rcases new a z with z | z
          · exact n1 (ma a z)
          · rw [e] at z
            cases z
        · exact n1 (mb a z)
    have h2' : Sls (own K (S0 ++ (S' ++ Sb)) H') σ (μ.set i none) Sb := h2.mono fun k d v T hT q => q.mono m2 fun a ha => by
      have nb : a ∉ Sa := fun z => dj a z (hT a ha)
      cases z : H a with
      | none => exact absurd z (r.tr a (List.mem_append_right _ (mb a (hT a ha))))
      | some o => rw [g.keep a o z nb]
    obtain ⟨U, h3, pU⟩ := Sls.put (f := own K (S0 ++ (S' ++ Sb)) H') (q2.mono m1 fun _ _ => rfl) hi h2'
    have eσ : σ.set i (some v) = σ := by
      apply List.ext_getElem?
      intro j
      by_cases hj : j = i
      · subst hj
        rw [List.getElem?_set_self hi, hv]
      · rw [List.getElem?_set_ne (Ne.symm hj)]
    rw [eσ] at h3
    have app : ∀ {τ : List (Option V)} {ν : M} {T : List Addr}, Sls (own K (S0 ++ (S' ++ Sb)) H') τ ν T → Sls (own K (S0 ++ (S' ++ Sb)) H') (τ ++ σ) (ν ++ μ.set i (some (d', k'))) (T ++ U) := by
      intro τ
      induction τ with
      | nil =>
        intro ν T hs
        cases ν with
        | nil =>
          have e : T = [] := hs
          subst e
          exact h3
        | cons y ν => exact hs.elim
      | cons x τ ih =>
        intro ν T hs
        cases ν with
        | nil => exact hs.elim
        | cons y ν =>
          cases y with
          | none =>
            have hs' : Sls (own K (S0 ++ (S' ++ Sb)) H') τ ν T := hs
            exact ih hs'
          | some dk =>
            obtain ⟨d1, k1⟩ := dk
            obtain ⟨u, U1, U2, e1, e2, q1, q2⟩ := hs
            exact ⟨u, U1, U2 ++ U, e1, by rw [e2, List.append_assoc], q1, ih q2⟩
    have h5 := app (q1.mono fun k d v T _ q => q.mono m1 fun _ _ => rfl)
    have mU : ∀ a, a ∈ U ↔ a ∈ T2 ∨ a ∈ Sb := fun a => by rw [pU.mem_iff, List.mem_append]
    have mem : ∀ a, a ∈ T1 ++ U ↔ a ∈ S' ∨ a ∈ Sb := fun a => by
      rw [List.mem_append, mU a, eT, List.mem_append]
      constructor
      · rintro (z | z | z)
        · exact .inl (.inl z)
        · exact .inl (.inr z)
        · exact .inr z
      · rintro ((z | z) | z)
        · exact .inl z
        · exact .inr (.inl z)
        · exact .inr (.inr z)
    have nd5 : (T1 ++ U).Nodup := by
      have e1 : (T1 ++ U).Perm (T1 ++ (T2 ++ Sb)) := List.Perm.append_left T1 pU
      rw [e1.nodup_iff, ← List.append_assoc, ← eT]
      exact List.nodup_append.mpr ⟨q.nd, (List.nodup_append.mp nd).2.1, fun a ha b hb e => djb a ha (e ▸ hb)⟩
    have m3 : Ex (mask H' (S0 ++ (S' ++ Sb))) (mask H' (S0 ++ (T1 ++ U))) := mask_mono fun a o n e => ⟨fun z => n (by
      rcases List.mem_append.mp z with z | z
      · exact List.mem_append_left _ z
      · exact List.mem_append_right _ (List.mem_append.mpr ((mem a).mp z))), e⟩
    refine ⟨T1 ++ U, ⟨fun a o e n => g.keep a o e fun z => n (ma a z), fun a ha => ?_⟩, ⟨fun a ha => q.t0 a (List.mem_append_left _ ha), fun a ha z => ?_, nd5, h5.mono fun k d v T _ q => q.mono m3 fun _ _ => rfl⟩, mem⟩
    · rcases (mem a).mp ha with z | z
      · rcases new a z with z | z
        · exact .inl (ma a z)
        · exact .inr z
      · exact .inl (mb a z)
    · rcases (mem a).mp ha with w | w
      · exact dj0 a w z
      · exact r.dis a (mb a w) z
theorem callIO_run {K : Frag} {mg : Str → Option Value} {n i : Nat} {sem : SemIO} (hn : ∀ dk ds, (sem dk ds).isSome = true → ds.length + 1 = n) {σ : Sg} {H : Hp} {Q : VK} (h : tO K mg W (mCallIO i sem ms) σ H Q) :
    tCallSD (spIO K mg n sem) [] (WE W) (tCons (tVar i) (tA K mg W ms)) σ H Q := by
  obtain ⟨S0, S, μ, rr, h⟩ := h
  obtain ⟨v, ev, h⟩ := has_run h rr
  refine ⟨v, ev, S0, S, μ, rr, Post.bnd (Z' := ZFs K S0 σ) h fun S1 H1 μ1 ds vs g1 z1 h1 => ?_⟩
  cases q : μ1[i]? with
  | none =>
    rw [q] at h1
    exact h1.elim
  | some o =>
    cases o with
    | none =>
      rw [q] at h1
      exact h1.elim
    | some dk0 =>
      rw [q] at h1
      obtain ⟨d0, k0⟩ := dk0
      obtain ⟨Sa, Sb, rl, ex, ma, mb, mm, back⟩ := z1.1.lend q ev
      have h1 : Post K mg W S0 S1 σ H1 (ZO K S0 σ) (ci i μ1 (sem (d0, k0) ds)) Q := h1
      match q2 : sem (d0, k0) ds, h1 with
      | none, h1 => exact h1.elim
      | some (.ok dk, dk0'), h1 =>
        refine ⟨v, vs, (d0, k0), ds, S0 ++ Sb, Sa, by simp, hn _ _ (by rw [q2]; rfl), rl, z1.2.ex ex, ?_⟩
        rw [q2]
        intro S' H' u g r'
        obtain ⟨S2, g2, r2, _⟩ := back (τ := [some u]) (ν := [some dk]) g r' rfl
        exact h1 S2 H' u g2 r2
      | some (.exn e, dk0'), h1 =>
        refine ⟨v, vs, (d0, k0), ds, S0 ++ Sb, Sa, by simp, hn _ _ (by rw [q2]; rfl), rl, z1.2.ex ex, ?_⟩
        rw [q2]
        intro S' H' cls dc g r' x
        obtain ⟨S2, g2, r2, mem⟩ := back (τ := []) (ν := []) g r' rfl
        refine h1 S2 H' cls dc g2 r2 ?_
        obtain ⟨C, c1, c2, c3⟩ := x
        refine ⟨C, c1, c2, ?_⟩
        rcases c3 with c3 | ⟨dd, fvs, e1, e2, e3, e4, e5⟩
        · exact .inl c3
        · have sub : ∀ a, a ∈ S0 ++ S2 → a ∈ S0 ++ Sb ++ S' := fun a z => by
            rcases List.mem_append.mp z with z | z
            · exact List.mem_append_left _ (List.mem_append_left _ z)
            · rcases (mem a).mp z with z | z
              · exact List.mem_append_right _ z
              · exact List.mem_append_left _ (List.mem_append_right _ z)
          exact .inr ⟨dd, fvs, e1, e2, fun z => e3 (sub _ z), e4, e5.ex (mask_mono fun a o n e => ⟨fun z => n (sub _ z), e⟩)⟩
variable {k n : Nat} {f : Addr} {fd : FuncData} {ps : List Str} {sem : SemIO} {x : Str}
theorem jo_callIO {i : Nat} {y : Str} {py : Pos} (F : FnOk X.prog X.w X.K X.mg X.base (L2.CX X.prog X.w) k f fd ps (spIO X.K X.mg n sem)) (hr : Room k X.A) (hg : Gl X x) (hm : X.mg x = some (.ref f)) (hk : PySem.W.keepIn X.K (.ref f) = true) (hb : Binds X.K fd ps [])
    (tk : Takes X W) (hn : ∀ dk ds, (sem dk ds).isSome = true → ds.length + 1 = n) (hN : X.N[i]? = some y) (hv : Vis X.env.scope y) (ha : JA X W es ms) (hs : starEach (.Name y py :: es) X.env = (false, eval (.Name y py) X.env) :: starEach es X.env := by rfl)
    (hd : (y == ("__debug__" : Str)) = false := by decide) (hcd : (y == ("__classdict__" : Str)) = false := by decide) (hdb : (x == ("__debug__" : Str)) = false := by decide) (hpl : (backTo pos (starEach es X.env)).any (·.1) = false := by rfl) :
    JO X W (.Call (.Name x p) (.Name y py :: es) [] pos) (mCallIO i sem ms) :=
  pe_imp (pe_callSD F hr hg hm hk hb .nil (E := WE W) (fun σ => passAt tk σ) (pa_cons (pe_var hN hv hd hcd) ha hs) hdb hs hpl) fun σ H Q h => callIO_run hn h

def CalIO (P : Program) (w : World) (K : Frag) (mg : Str → Option Value) (base : Heap) (k : Nat) (x : Str) (n : Nat) (sem : SemIO) : Prop :=
  ∃ f fd ps, FnOk P w K mg base (L2.CX P w) k f fd ps (spIO K mg n sem) ∧ mg x = some (.ref f) ∧ PySem.W.keepIn K (.ref f) = true ∧ Binds K fd ps [] ∧ ∀ dk ds, (sem dk ds).isSome = true → ds.length + 1 = n
theorem jo_calIO {j i : Nat} {y : Str} {py : Pos} (C : CalIO X.prog X.w X.K X.mg X.base k x n sem) (hr : Room j X.A) (hj : k ≤ j) (hg : Gl X x) (tk : Takes X W) (hN : X.N[i]? = some y) (hv : Vis X.env.scope y) (ha : JA X W es ms)
    (hs : starEach (.Name y py :: es) X.env = (false, eval (.Name y py) X.env) :: starEach es X.env := by rfl)
    (hd : (y == ("__debug__" : Str)) = false := by decide) (hcd : (y == ("__classdict__" : Str)) = false := by decide) (hdb : (x == ("__debug__" : Str)) = false := by decide) (hpl : (backTo pos (starEach es X.env)).any (·.1) = false := by rfl) :
    JO X W (.Call (.Name x p) (.Name y py :: es) [] pos) (mCallIO i sem ms) := by
  obtain ⟨f, fd, ps, F, hm, hk, hb, hn⟩ := C
  exact jo_callIO F (hr.mono hj) hg hm hk hb tk hn hN hv ha hs hd hcd hdb hpl
theorem calIO_of {P : Program} {w : World} {K : Frag} {mg : Str → Option Value} {base : Heap} {x qual : Str} {params : Arguments} {body : List Stmt} {scope : Scope} {f : Addr} {N ps : List Str} {k : Nat} {m : MS}
    (F : ∃ fd, FunD K x qual params body scope [] [] f fd) (S : FnScope N ps scope) (hN : 0 < N.length) (gx : mg x = some (.ref f)) (hb : ∀ (fd : FuncData), FunD K x qual params body scope [] [] f fd → Binds K fd ps [])
    (h : ∀ (cdv : Value) (A : Around) (outer : List Env) (s : Shared) (H : Hp) (E : XK), Room k (A.deeper (envOfC qual scope s.heap.objs.size f cdv)) → Takes (cxOf (L2.CX P w) P w K mg base N qual scope f cdv A outer s H E) (fun cls d _ H => E cls d H) →
      JB (cxOf (L2.CX P w) P w K mg base N qual scope f cdv A outer s H E) (fun cls d _ H => E cls d H) true body m) : CalIO P w K mg base (k + 1) x ps.length (semIO ps.length N.length m) := by
  obtain ⟨fd, F⟩ := F
  exact ⟨f, fd, ps, fnIO F S hN fun cdv A outer s H E hr => h cdv A outer s H E hr (takes_of (E := E) rfl rfl rfl rfl), gx, F.kp, hb fd F, fun dk ds q => semIO_len q⟩

/-! ### items -/
/-- x[i] of lists, tuples, texts -/
def ixD : D → D → Option D
  | .lst ds, .int i => atI ds i
  | .tup ds, .int i => atI ds i
  | .str x, .int i => if x.length ≤ 16777216 then (atI x i).map fun c => .str [c] else none
  | _, _ => none
theorem atI_some {α : Type} {xs : List α} {i : Int} {x : α} (h : atI xs i = some x) : ∃ j, ixN xs.length i = some j ∧ xs[j]? = some x := by
  unfold atI at h
  cases q : ixN xs.length i with
  | none =>
    rw [q] at h
    cases h
  | some j =>
    rw [q] at h
    exact ⟨j, rfl, h⟩
theorem atI_reps {K : Frag} {F : Hp} {ds : List D} {vs : List V} {i : Int} {d : D} (r : Reps K F ds vs) (h : atI ds i = some d) : ∃ v, atI vs i = some v ∧ Rep K F d v := by
  obtain ⟨j, h1, h2⟩ := atI_some h
  obtain ⟨v, q1, q2⟩ := r.get h2
  refine ⟨v, ?_, q2⟩
  unfold atI
  rw [r.length, h1]
  exact q1
theorem o_ix {K : Frag} : Op2 K (rIx K) ixD := by
  intro S H d e c x y Q hS hx hy hg k
  cases e with
  | int i =>
    have ey : y = .int i := hy
    subst ey
    cases d with
    | lst ds =>
      obtain ⟨a, vs, e1, q1, q2⟩ := hx
      obtain ⟨v, p1, p2⟩ := atI_reps q2 hg
      exact .inl ⟨a, vs, i, v, e1, rfl, ex_l mask_ex q1, p1, k v H (Ex.refl _) p2⟩
    | tup ds =>
      obtain ⟨a, vs, e1, q1, q2⟩ := hx
      obtain ⟨v, p1, p2⟩ := atI_reps q2 hg
      exact .inr (.inl ⟨a, vs, i, v, e1, rfl, ex_t mask_ex q1, p1, k v H (Ex.refl _) p2⟩)
    | str z =>
      have ex : x = .str ⟨z.toArray⟩ := hx
      subst ex
      have hg' : (if z.length ≤ 16777216 then (atI z i).map (fun c => D.str [c]) else none) = some c := hg
      split at hg'
      · rename_i hl
        cases q : atI z i with
        | none =>
          rw [q] at hg'
          cases hg'
        | some n =>
          rw [q] at hg'
          cases hg'
          refine .inr (.inr ⟨⟨z.toArray⟩, i, n, rfl, rfl, ?_, by simpa using q, k _ H (Ex.refl _) rfl⟩)
          show z.toArray.size ≤ sizeLine
          rw [sizeLine_eq]
          simpa using hl
      · cases hg'
    | _ => cases hg
  | _ => cases d <;> cases hg
/-- a slot read in passing: what is owned stays owned (its items are not) -/
def br : Option (Option (D × Kd)) → Option D
  | some (some (d, .z)) => some d
  | some (some (.lst ds, .s .z)) => some (.lst ds)
  | _ => none
def brw (μ : M) (i : Nat) : Option D := br μ[i]?
def bw {α : Type} (μ : M) (f : D → Option α) : Option D → Option (Res α × M)
  | some d => op' μ (f d)
  | none => none
def mIxB (i : Nat) (mi : EV D) : EV D := has i (bnd mi fun j => fun μ => bw μ (fun d => ixD d j) (brw μ i))
theorem owns_z {K : Frag} {F H : Hp} : ∀ {ds : List D} {vs : List V} {S : List Addr}, OwnsF (Own K F H .z) ds vs S → S = [] ∧ Reps K F ds vs
  | [], _, _, h => ⟨h.2, h.1⟩
  | d :: ds, _, _, h => by
    obtain ⟨v, r, S1, S2, e1, e2, h1, h2⟩ := h
    obtain ⟨e3, h4⟩ := owns_z h2
    obtain ⟨e5, h6⟩ := h1
    subst e3
    subst e5
    exact ⟨e2, v, r, e1, h6, h4⟩
theorem brw_ok {K : Frag} {S0 S : List Addr} {H : Hp} {σ : List (Option V)} {μ : M} {i : Nat} {d : D} {v : V} (r : R K S0 S H σ μ) (h : brw μ i = some d) (ev : σ[i]? = some (some v)) :
    Rep K (mask H (S0 ++ S)) d v ∨ ∃ ds a vs, d = .lst ds ∧ v = .ref a ∧ H a = some (.lst vs) ∧ Reps K (mask H (S0 ++ S)) ds vs := by
  unfold brw br at h
  split at h
  · rename_i d' q
    cases h
    obtain ⟨v', e1, p1⟩ := r.read0 q
    rw [ev] at e1
    cases e1
    exact .inl p1
  · rename_i ds q
    cases h
    obtain ⟨v', T1, T2, e1, q1, q2, _⟩ := r.sl.take q
    rw [ev] at e1
    cases e1
    obtain ⟨a, vs, T3, e2, e3, e4, q3⟩ := q1
    exact .inr ⟨ds, a, vs, rfl, e2, e3, (owns_z q3).2⟩
  · cases h
theorem j_ixB {i : Nat} {x : Str} {px : Pos} (hN : X.N[i]? = some x) (hv : Vis X.env.scope x) (hb : JF X W e mi) (hs : PlainIx e) (hd : (x == ("__debug__" : Str)) = false := by decide) (hcd : (x == ("__classdict__" : Str)) = false := by decide) : JF X W (.Subscript (.Name x px) e pos) (mIxB i mi) := by
  refine pe_imp (pe_ix ix_seq (pe_var hN hv hd hcd) hb hs) fun σ H Q h => ?_
  obtain ⟨S0, S, μ, rr, h⟩ := h
  obtain ⟨v, ev, h⟩ := has_run h rr
  refine ⟨v, ev, S0, S, μ, rr, Post.bnd (Z' := ZF X.K S0 σ) h fun S1 H1 μ1 j u g1 z1 h1 => ?_⟩
  cases q : brw μ1 i with
  | none =>
    rw [q] at h1
    exact h1.elim
  | some d =>
    rw [q] at h1
    have h3 : Post X.K X.mg W S0 S1 σ H1 (ZF X.K S0 σ) (opt (ixD d j) μ1) Q := h1
    cases q2 : ixD d j with
    | none =>
      rw [q2] at h3
      exact h3.elim
    | some c =>
      rw [q2] at h3
      rcases brw_ok z1.1 q ev with p | ⟨ds, a, vs, e1, e2, e3, e4⟩
      · exact o_ix (S0 ++ S1) H1 d j c v u Q z1.1.tr p z1.2 q2 fun w H3 ex p => h3 S1 H3 w (Gr.ex ex) ⟨z1.1.ex ex, p⟩
      · subst e1
        cases j with
        | int n =>
          have eu : u = .int n := z1.2
          obtain ⟨w, p1, p2⟩ := atI_reps e4 q2
          exact .inl ⟨a, vs, n, w, e2, eu, SqL.of e3, p1, h3 S1 H1 w Gr.refl ⟨z1.1, p2⟩⟩
        | _ => cases q2
/-- x[e] = v, x an owned list of frozen items -/
def ow : Option (Option (D × Kd)) → Option (List D)
  | some (some (.lst ds, .s .z)) => some ds
  | _ => none
def ownL (μ : M) (i : Nat) : Option (List D) := ow μ[i]?
theorem ownL_eq {μ : M} {i : Nat} {ds : List D} (h : ownL μ i = some ds) : μ[i]? = some (some (.lst ds, .s .z)) := by
  unfold ownL ow at h
  split at h
  · rename_i q
    cases h
    exact q
  · cases h
def asI : D → Option Int
  | .int i => some i
  | _ => none
theorem asI_eq {d : D} {i : Int} (h : asI d = some i) : d = .int i := by
  cases d <;> cases h
  rfl
def stL (μ : M) (i : Nat) (j d : D) : Option M := (ownL μ i).bind fun ds => (asI j).bind fun n => (ixN ds.length n).map fun t => μ.set i (some (.lst (ds.set t d), .s .z))
theorem stL_eq {μ μ' : M} {i : Nat} {j d : D} (h : stL μ i j d = some μ') : ∃ ds n t, μ[i]? = some (some (.lst ds, .s .z)) ∧ j = .int n ∧ ixN ds.length n = some t ∧ μ' = μ.set i (some (.lst (ds.set t d), .s .z)) := by
  unfold stL at h
  cases q : ownL μ i with
  | none =>
    rw [q] at h
    cases h
  | some ds =>
    rw [q] at h
    cases q2 : asI j with
    | none =>
      rw [q2] at h
      cases h
    | some n =>
      rw [q2] at h
      have h : (ixN ds.length n).map (fun t => μ.set i (some (.lst (ds.set t d), .s .z))) = some μ' := h
      cases q3 : ixN ds.length n with
      | none =>
        rw [q3] at h
        cases h
      | some t =>
        rw [q3] at h
        cases h
        exact ⟨ds, n, t, ownL_eq q, asI_eq q2, q3, rfl⟩
def mStIx (i : Nat) (m mi : EV D) : MS := has i (bnd m fun d => bnd mi fun j => fun μ => ag (stL μ i j d))
theorem owns_of {K : Frag} {F H : Hp} : ∀ {ds : List D} {vs : List V}, Reps K F ds vs → OwnsF (Own K F H .z) ds vs []
  | [], _, h => ⟨h, rfl⟩
  | d :: ds, _, h => by
    obtain ⟨v, r, e, h1, h2⟩ := h
    exact ⟨v, r, [], [], e, rfl, ⟨rfl, h1⟩, owns_of h2⟩
theorem js_stIx {i : Nat} {x : Str} {px psub : Pos} {ei : Expr} (hN : X.N[i]? = some x) (hv : Vis X.env.scope x) (he : JF X W e m) (hi : JF X W ei mi)
    (hs : swapsWithSole [.Subscript (.Name x px) ei psub] e pos.line X.env = pure false := by rfl) (hw : swappedStores [.Subscript (.Name x px) ei psub] e X.env = pure none := by rfl) (h1 : (assignEach [.Subscript (.Name x px) ei psub] X.env).map (·.2) = [assign (.Subscript (.Name x px) ei psub) X.env] := by rfl)
    (ha : ∀ v, assign (.Subscript (.Name x px) ei psub) X.env v = (do
      let ov ← holding [v] (eval (.Name x px) X.env)
      let iv ← holding [v, ov] (eval ei X.env)
      standAt psub
      holding [v, ov, iv] (setItem ov iv v)
      release [v, ov, iv] []) := by intro _; rfl) (hd : (x == ("__debug__" : Str)) = false := by decide) (hcd : (x == ("__classdict__" : Str)) = false := by decide) :
    JS X W pin (.Assign [.Subscript (.Name x px) ei psub] e pos) (mStIx i m mi) := ps_imp (ps_asg he (pg_sub (pe_var hN hv hd hcd) hi set_list ha) hs hw h1) fun En σ H h => by
  obtain ⟨S0, S, μ, rr, h⟩ := h
  obtain ⟨v, ev, h⟩ := has_runS h rr
  refine ⟨S0, S, μ, rr, PostS.bnd (Z' := ZF X.K S0 σ) h fun S1 H1 μ1 d u g1 z1 h1 => ?_⟩
  refine ⟨v, ev, S0, S1, μ1, z1.1, PostS.bnd (Z' := ZF X.K S0 σ) h1 fun S2 H2 μ2 j w g2 z2 h2 => ?_⟩
  cases q0 : stL μ2 i j d with
  | none =>
    rw [q0] at h2
    exact h2.elim
  | some μ3 =>
    rw [q0] at h2
    obtain ⟨ds, n, t, q, ej, q5, e8⟩ := stL_eq q0
    subst ej
    subst e8
    have ew : w = .int n := z2.2
    obtain ⟨Sa, Sb, rl, ex, ma, mb, mm, back⟩ := z2.1.lend q ev
    obtain ⟨v', T1, T2, e1, e2, q1, q2⟩ := rl.sl
    cases e1
    obtain ⟨a, vs, T3, e3, e4, e5, q3⟩ := q1
    obtain ⟨e6, q4⟩ := owns_z q3
    subst e6
    have e7 : T2 = [] := q2
    subst e7
    have eSa : Sa = [a] := by rw [e2, e5]; rfl
    refine ⟨a, vs, n, t, e3, ew, e4, by rw [q4.length]; exact q5, ?_⟩
    have g3 : Gr Sa H2 Sa (upd H2 a (.lst (vs.set t u))) := ⟨fun b o e nb => by
      rw [upd_ne (fun z => nb (by rw [eSa, z]; exact List.mem_cons_self))]
      exact e, fun b hb => .inl hb⟩
    have m4 : Ex (mask H2 (S0 ++ Sb ++ Sa)) (mask (upd H2 a (.lst (vs.set t u))) (S0 ++ Sb ++ Sa)) := Gr.mask g3
    have p : Rep X.K (mask H2 (S0 ++ Sb ++ Sa)) d u := (z1.2.ex g2.mask).ex ex
    have rl' : R X.K (S0 ++ Sb) Sa (upd H2 a (.lst (vs.set t u))) [some v] [some (.lst (ds.set t d), .s .z)] := by
      refine ⟨fun b hb => ?_, rl.dis, rl.nd, ⟨v, Sa, [], rfl, by simp, ⟨a, vs.set t u, [], e3, upd_same, eSa, owns_of ((Reps.set p t q4).ex m4)⟩, rfl⟩⟩
      by_cases hba : b = a
      · rw [hba, upd_same]
        exact fun z => nomatch z
      · rw [upd_ne hba]
        exact rl.t0 b hb
    obtain ⟨S3, g5, r5, _⟩ := back (τ := []) (ν := []) g3 rl' rfl
    exact h2 S3 _ σ g5 Keep.refl r5
/-- an owned list of frozen items -/
def mLstO (a : EV (List D)) : EV (D × Kd) := bnd a fun ds => opt (if ds.length ≤ 16777216 then some (.lst ds, .s .z) else none)
theorem R.new {K : Frag} {S0 S : List Addr} {H : Hp} {σ : List (Option V)} {μ : M} {q : Addr} {ds : List D} {vs : List V} (r : R K S0 S H σ μ) (hq : H q = none) (h : Reps K (mask H (S0 ++ S)) ds vs) :
    R K S0 (q :: S) (upd H q (.lst vs)) (some (.ref q) :: σ) (some (.lst ds, .s .z) :: μ) ∧ Gr S H (q :: S) (upd H q (.lst vs)) := by
  have nq : q ∉ S0 ++ S := fun z => r.tr q z hq
  have m2 : Ex (mask H (S0 ++ S)) (mask (upd H q (.lst vs)) (S0 ++ (q :: S))) := mask_mono fun a o n e => by
    refine ⟨fun z => ?_, Ex.new hq a o e⟩
    rcases List.mem_append.mp z with z | z
    · exact n (List.mem_append_left _ z)
    · rcases List.mem_cons.mp z with z | z
      · rw [z, hq] at e
        cases e
      · exact n (List.mem_append_right _ z)
  refine ⟨⟨(r.ex (Ex.new hq)).t0, fun a ha => ?_, ?_, ⟨.ref q, [q], S, rfl, rfl, ⟨q, vs, [], rfl, upd_same, rfl, owns_of (h.ex m2)⟩, r.sl.mono fun k d v T hT p => p.mono m2 fun a ha => ?_⟩⟩, ⟨fun a o e n => Ex.new hq a o e, fun a ha => ?_⟩⟩
  · rcases List.mem_cons.mp ha with ha | ha
    · rw [ha]
      exact fun z => nq (List.mem_append_left _ z)
    · exact r.dis a ha
  · exact List.nodup_cons.mpr ⟨fun z => nq (List.mem_append_right _ z), r.nd⟩
  · rcases List.mem_cons.mp ha with ha | ha
    · rw [ha]
      exact .inr hq
    · exact .inl ha
  · exact upd_ne fun z => nq (List.mem_append_right _ (by rw [← z]; exact hT a ha))
theorem jo_lst (h : JA X W es ms) : JO X W (.List es pos) (mLstO ms) := pe_imp (pe_lst h) fun σ H Q h => by
  obtain ⟨S0, S, μ, rr, h⟩ := h
  refine ⟨S0, S, μ, rr, Post.bnd (Z' := ZFs X.K S0 σ) h fun S1 H1 μ1 ds vs g1 z1 h1 => ?_⟩
  by_cases hl : ds.length ≤ 16777216
  · rw [if_pos hl] at h1
    refine ⟨by rw [z1.2.length, sizeLine_eq]; exact hl, fun p hp => ?_⟩
    obtain ⟨r2, g2⟩ := z1.1.new hp z1.2
    exact h1 _ _ _ g2 r2
  · rw [if_neg hl] at h1
    exact h1.elim
/-- a frozen value where an owned one may stand -/
def toO (m : EV D) : EV (D × Kd) := bnd m fun d => giv (d, .z)
theorem jo_of (h : JF X W e m) : JO X W e (toO m) := pe_imp h fun σ H Q h => by
  obtain ⟨S0, S, μ, rr, h⟩ := h
  exact ⟨S0, S, μ, rr, Post.bnd (Z' := ZF X.K S0 σ) h fun S1 H1 μ1 d v g1 z1 h1 => h1 S1 H1 v Gr.refl (z1.1.push z1.2)⟩
end
end Mn
end
section
/-! Mn: the operations on trees. -/
namespace Mn
open PySem PySem.Spec PyProof.Rows L2

/-- two ints -/
def dII (g : Int → Int → D) : D → D → Option D
  | .int i, .int j => some (g i j)
  | _, _ => none
def dIC (c : Int → Int → Bool) (g : Int → Int → D) : D → D → Option D
  | .int i, .int j => bif c i j then some (g i j) else none
  | _, _ => none
theorem dII_some {g : Int → Int → D} {d e c : D} (h : dII g d e = some c) : ∃ i j, d = .int i ∧ e = .int j ∧ c = g i j := by
  unfold dII at h
  split at h
  · cases h
    exact ⟨_, _, rfl, rfl, rfl⟩
  · cases h
theorem dIC_some {q : Int → Int → Bool} {g : Int → Int → D} {d e c : D} (h : dIC q g d e = some c) : ∃ i j, d = .int i ∧ e = .int j ∧ q i j = true ∧ c = g i j := by
  unfold dIC at h
  split at h
  · rename_i i j
    cases z : q i j with
    | true =>
      rw [z] at h
      cases h
      exact ⟨i, j, rfl, rfl, z, rfl⟩
    | false =>
      rw [z] at h
      cases h
  · cases h
section
variable {K : Frag}
theorem o_II {g : Int → Int → V} {gd : Int → Int → D} (h : ∀ i j F, Rep K F (gd i j) (g i j)) : Op2 K (rI0 g) (dII gd) := by
  intro S H d e c x y Q hS hx hy hg k
  obtain ⟨i, j, e1, e2, e3⟩ := dII_some hg
  subst e1
  subst e2
  subst e3
  exact ⟨i, j, hx, hy, k _ H (Ex.refl _) (h i j _)⟩
theorem o_IC {C : Int → Int → Prop} {q : Int → Int → Bool} {g : Int → Int → V} {gd : Int → Int → D} (hc : ∀ i j, q i j = true → C i j) (h : ∀ i j F, Rep K F (gd i j) (g i j)) : Op2 K (rI C g) (dIC q gd) := by
  intro S H d e c x y Q hS hx hy hg k
  obtain ⟨i, j, e1, e2, e4, e3⟩ := dIC_some hg
  subst e1
  subst e2
  subst e3
  exact ⟨i, j, hx, hy, hc i j e4, k _ H (Ex.refl _) (h i j _)⟩
def gAdd := dII fun i j => .int (i + j)
def gSub := dII fun i j => .int (i - j)
def gXor := dII fun i j => .int (Builtin.bitXor i j)
def gAnd := dII fun i j => .int (Builtin.bitAnd i j)
def gLt := dII fun i j => .bl (decide (i < j))
def gLe := dII fun i j => .bl (decide (i ≤ j))
def gGt := dII fun i j => .bl (decide (j < i))
def gGe := dII fun i j => .bl (decide (j ≤ i))
def sm (i : Int) : Bool := decide (-18446744073709551616 < i) && decide (i < 18446744073709551616)
def gMul := dIC (fun i j => sm i || sm j) fun i j => .int (i * j)
def gDiv := dIC (fun _ j => decide (0 < j) && decide (j < 1073741824)) fun i j => .int (i / j)
def gMod := dIC (fun _ j => decide (0 < j)) fun i j => .int (i % j)
def gPow := dIC (fun i j => decide (0 ≤ j) && decide (j ≤ 1000000) && decide (i.natAbs < 18446744073709551616)) fun i j => .int (i ^ j.toNat)
def gShl := dIC (fun i j => decide (0 ≤ j) && decide (j ≤ 1000000) && decide (i.natAbs < 18446744073709551616)) fun i j => .int (i * 2 ^ j.toNat)
def gShr := dIC (fun _ j => decide (0 ≤ j)) fun i j => .int (i / 2 ^ j.toNat)
theorem sm_ok {i : Int} (h : sm i = true) : -(2 ^ 64) < i ∧ i < 2 ^ 64 := by
  have h2 := Bool.and_eq_true_iff.mp h
  have h3 := of_decide_eq_true h2.1
  have h4 := of_decide_eq_true h2.2
  omega
theorem o_add : Op2 K (rI0 fun i j => .int (i + j)) gAdd := o_II fun _ _ _ => rfl
theorem o_sub : Op2 K (rI0 fun i j => .int (i - j)) gSub := o_II fun _ _ _ => rfl
theorem o_xor : Op2 K (rI0 fun i j => .int (Builtin.bitXor i j)) gXor := o_II fun _ _ _ => rfl
theorem o_and : Op2 K (rI0 fun i j => .int (Builtin.bitAnd i j)) gAnd := o_II fun _ _ _ => rfl
theorem o_lt : Op2 K (rI0 fun i j => .bl (decide (i < j))) gLt := o_II fun _ _ _ => rfl
theorem o_le : Op2 K (rI0 fun i j => .bl (decide (i ≤ j))) gLe := o_II fun _ _ _ => rfl
theorem o_gt : Op2 K (rI0 fun i j => .bl (decide (j < i))) gGt := o_II fun _ _ _ => rfl
theorem o_ge : Op2 K (rI0 fun i j => .bl (decide (j ≤ i))) gGe := o_II fun _ _ _ => rfl
theorem o_mul : Op2 K (rI CMul fun i j => .int (i * j)) gMul := o_IC (fun i j h => (Bool.or_eq_true_iff.mp h).elim (fun z => .inl (sm_ok z)) fun z => .inr (sm_ok z)) fun _ _ _ => rfl
theorem o_div : Op2 K (rI CDiv fun i j => .int (i / j)) gDiv := o_IC (fun i j h => by
  have h2 := Bool.and_eq_true_iff.mp h
  exact ⟨of_decide_eq_true h2.1, of_decide_eq_true h2.2⟩) fun _ _ _ => rfl
theorem o_mod : Op2 K (rI (fun _ j => 0 < j) fun i j => .int (i % j)) gMod := o_IC (fun i j h => of_decide_eq_true h) fun _ _ _ => rfl
theorem pow_ok {i j : Int} (h : (decide (0 ≤ j) && decide (j ≤ 1000000) && decide (i.natAbs < 18446744073709551616)) = true) : CPow i j := by
  have h2 := Bool.and_eq_true_iff.mp h
  have h3 := Bool.and_eq_true_iff.mp h2.1
  have h4 := of_decide_eq_true h2.2
  exact ⟨of_decide_eq_true h3.1, of_decide_eq_true h3.2, by omega⟩
theorem o_pow : Op2 K (rI CPow fun i j => .int (i ^ j.toNat)) gPow := o_IC (fun i j h => pow_ok h) fun _ _ _ => rfl
theorem o_shl : Op2 K (rI CPow fun i j => .int (i * 2 ^ j.toNat)) gShl := o_IC (fun i j h => pow_ok h) fun _ _ _ => rfl
theorem o_shr : Op2 K (rI (fun _ j => 0 ≤ j) fun i j => .int (i / 2 ^ j.toNat)) gShr := o_IC (fun i j h => of_decide_eq_true h) fun _ _ _ => rfl
/-- == of plain values -/
def eqS : D → D → Option Bool
  | .int i, .int j => some (decide (i = j))
  | .bl a, .bl b => some (decide (a = b))
  | .str x, .str y => some (decide (x = y))
  | .non, .non => some true
  | .non, .int _ => some false
  | .int _, .non => some false
  | _, _ => none
def gEq (d e : D) : Option D := (eqS d e).map fun b => .bl b
def gNe (d e : D) : Option D := (eqS d e).map fun b => .bl !b
theorem eqS_ok {F : Hp} {d e : D} {x y : V} {b : Bool} (hx : Rep K F d x) (hy : Rep K F e y) (h : eqS d e = some b) : scal x y = true ∧ b = decide (x = y) := by
  unfold eqS at h
  split at h <;> cases h <;> (rw [show x = _ from hx, show y = _ from hy]) <;> refine ⟨rfl, ?_⟩ <;> simp
theorem o_eq : Op2 K rEq gEq := by
  intro S H d e c x y Q hS hx hy hg k
  unfold gEq at hg
  cases q : eqS d e with
  | none =>
    rw [q] at hg
    cases hg
  | some b =>
    rw [q] at hg
    cases hg
    obtain ⟨h1, h2⟩ := eqS_ok hx hy q
    refine ⟨h1, k _ H (Ex.refl _) ?_⟩
    rw [h2]
    rfl
theorem o_ne : Op2 K rNe gNe := by
  intro S H d e c x y Q hS hx hy hg k
  unfold gNe at hg
  cases q : eqS d e with
  | none =>
    rw [q] at hg
    cases hg
  | some b =>
    rw [q] at hg
    cases hg
    obtain ⟨h1, h2⟩ := eqS_ok hx hy q
    refine ⟨h1, k _ H (Ex.refl _) ?_⟩
    rw [h2]
    rfl
def gNeg : D → Option D
  | .int i => some (.int (-i))
  | _ => none
theorem o_neg : Op1 K (rU fun i => .int (-i)) gNeg := by
  intro S H d c x Q hS hx hg k
  cases d with
  | int i =>
    cases hg
    exact ⟨i, hx, k _ H (Ex.refl _) rfl⟩
  | _ => cases hg
/-! ### len, int, isinstance -/
def lenD : D → Option D
  | .lst ds => some (.int ds.length)
  | .tup ds => some (.int ds.length)
  | .str x => if x.length ≤ 16777216 then some (.int x.length) else none
  | _ => none
def n1 (g : D → Option D) : List D → Option D
  | [d] => g d
  | _ => none
theorem n1_some {g : D → Option D} {ds : List D} {c : D} (h : n1 g ds = some c) : ∃ d, ds = [d] ∧ g d = some c := by
  unfold n1 at h
  split at h
  · exact ⟨_, rfl, h⟩
  · cases h
theorem lenD_ok {S : List Addr} {H : Hp} {d c : D} {v : V} (hv : Rep K (mask H S) d v) (h : lenD d = some c) : ∃ n : Nat, c = .int n ∧ LenV K v H n := by
  cases d with
  | lst ds =>
    obtain ⟨a, vs, e1, q1, q2⟩ := hv
    cases h
    subst e1
    exact ⟨_, rfl, .inl ⟨vs, ex_l mask_ex q1, q2.length.symm⟩⟩
  | tup ds =>
    obtain ⟨a, vs, e1, q1, q2⟩ := hv
    cases h
    subst e1
    exact ⟨_, rfl, .inr ⟨vs, ex_t mask_ex q1, q2.length.symm⟩⟩
  | str x =>
    have e : v = .str ⟨x.toArray⟩ := hv
    subst e
    have h' : (if x.length ≤ 16777216 then some (D.int x.length) else none) = some c := h
    split at h'
    · rename_i hl
      cases h'
      refine ⟨_, rfl, ?_, ?_⟩
      · show x.toArray.size ≤ sizeLine
        rw [sizeLine_eq]
        simpa using hl
      · show x.length = x.toArray.size
        simp
    · cases h'
  | _ => cases h
theorem o_len : OpN K (fun xs H Q => ∃ x n, xs = [x] ∧ LenV K x H n ∧ Q (.int n) H) (n1 lenD) := by
  intro S H ds c xs Q hS hx hg k
  obtain ⟨d, e1, e2⟩ := n1_some hg
  subst e1
  obtain ⟨v, e3, q⟩ := reps1 hx
  obtain ⟨n, e4, l⟩ := lenD_ok q e2
  subst e4
  exact ⟨v, n, e3, l, k _ H (Ex.refl _) rfl⟩
def intD : D → Option D
  | .int i => some (.int i)
  | .bl b => some (.int (if b then 1 else 0))
  | _ => none
theorem o_int : OpN K (fun xs H Q => (∃ i, xs = [.int i] ∧ Q (.int i) H) ∨ ∃ k, xs = [.bl k] ∧ Q (.int (if k then 1 else 0)) H) (n1 intD) := by
  intro S H ds c xs Q hS hx hg k
  obtain ⟨d, e1, e2⟩ := n1_some hg
  subst e1
  obtain ⟨v, e3, q⟩ := reps1 hx
  cases d with
  | int i =>
    cases e2
    exact .inl ⟨i, by rw [e3, show v = .int i from q], k _ H (Ex.refl _) rfl⟩
  | bl b =>
    cases e2
    exact .inr ⟨b, by rw [e3, show v = .bl b from q], k _ H (Ex.refl _) rfl⟩
  | _ => cases e2
def tyN : D → String
  | .non => "NoneType"
  | .bl _ => "bool"
  | .int _ => "int"
  | .str _ => "str"
  | .tup _ => "tuple"
  | .lst _ => "list"
inductive Ty where
  | int | bool | str | tuple | list
def Ty.nm : Ty → String
  | .int => "int"
  | .bool => "bool"
  | .str => "str"
  | .tuple => "tuple"
  | .list => "list"
def isTy : Ty → D → Bool
  | .int, .int _ => true
  | .int, .bl _ => true
  | .bool, .bl _ => true
  | .str, .str _ => true
  | .tuple, .tup _ => true
  | .list, .lst _ => true
  | _, _ => false
theorem tyx {S : List Addr} {H : Hp} {d : D} {v : V} (hv : Rep K (mask H S) d v) : TyX K H v (.type (tyN d)) := by
  cases d with
  | non => rw [show v = .non from hv]; exact .base .non
  | bl b => rw [show v = .bl b from hv]; exact .base (.bl b)
  | int i => rw [show v = .int i from hv]; exact .base (.int i)
  | str x => rw [show v = .str ⟨x.toArray⟩ from hv]; exact .base (.str _)
  | tup ds =>
    obtain ⟨a, vs, e1, q1, q2⟩ := hv
    subst e1
    rcases ex_t mask_ex q1 with (q | ⟨o, q⟩) | ⟨o, its, n, q, c, _⟩
    · exact .base (.tup q)
    · exact .fTuple q
    · exact .kTuple q c
  | lst ds =>
    obtain ⟨a, vs, e1, q1, q2⟩ := hv
    subst e1
    rcases ex_l mask_ex q1 with (q | ⟨o, q⟩) | ⟨o, its, n, q, c, _⟩
    · exact .base (.lst q)
    · exact .base (.frz q)
    · exact .kList q c
theorem is_ty : ∀ (T : Ty) (d : D), kitB (tyN d) T.nm = some (isTy T d)
  | .int, .non => (by decide +kernel : kitB "NoneType" "int" = some false)
  | .int, .bl _ => (by decide +kernel : kitB "bool" "int" = some true)
  | .int, .int _ => (by decide +kernel : kitB "int" "int" = some true)
  | .int, .str _ => (by decide +kernel : kitB "str" "int" = some false)
  | .int, .tup _ => (by decide +kernel : kitB "tuple" "int" = some false)
  | .int, .lst _ => (by decide +kernel : kitB "list" "int" = some false)
  | .bool, .non => (by decide +kernel : kitB "NoneType" "bool" = some false)
  | .bool, .bl _ => (by decide +kernel : kitB "bool" "bool" = some true)
  | .bool, .int _ => (by decide +kernel : kitB "int" "bool" = some false)
  | .bool, .str _ => (by decide +kernel : kitB "str" "bool" = some false)
  | .bool, .tup _ => (by decide +kernel : kitB "tuple" "bool" = some false)
  | .bool, .lst _ => (by decide +kernel : kitB "list" "bool" = some false)
  | .str, .non => (by decide +kernel : kitB "NoneType" "str" = some false)
  | .str, .bl _ => (by decide +kernel : kitB "bool" "str" = some false)
  | .str, .int _ => (by decide +kernel : kitB "int" "str" = some false)
  | .str, .str _ => (by decide +kernel : kitB "str" "str" = some true)
  | .str, .tup _ => (by decide +kernel : kitB "tuple" "str" = some false)
  | .str, .lst _ => (by decide +kernel : kitB "list" "str" = some false)
  | .tuple, .non => (by decide +kernel : kitB "NoneType" "tuple" = some false)
  | .tuple, .bl _ => (by decide +kernel : kitB "bool" "tuple" = some false)
  | .tuple, .int _ => (by decide +kernel : kitB "int" "tuple" = some false)
  | .tuple, .str _ => (by decide +kernel : kitB "str" "tuple" = some false)
  | .tuple, .tup _ => (by decide +kernel : kitB "tuple" "tuple" = some true)
  | .tuple, .lst _ => (by decide +kernel : kitB "list" "tuple" = some false)
  | .list, .non => (by decide +kernel : kitB "NoneType" "list" = some false)
  | .list, .bl _ => (by decide +kernel : kitB "bool" "list" = some false)
  | .list, .int _ => (by decide +kernel : kitB "int" "list" = some false)
  | .list, .str _ => (by decide +kernel : kitB "str" "list" = some false)
  | .list, .tup _ => (by decide +kernel : kitB "tuple" "list" = some false)
  | .list, .lst _ => (by decide +kernel : kitB "list" "list" = some true)
end
section
variable {X : Cx} {W : WX} {pin : Bool} {tg e : Expr} {es : List Expr} {m mi : EV D} {ms : EV (List D)} {pos p : Pos}
/-- isinstance(e, T), T a built-in type -/
theorem j_isi {n : Ty} {T x : Str} {pt : Pos} (he : JF X W e m) (hg : Gl X x) (hm : X.mg x = none) (hx : bootBuiltins x = some (.builtin "isinstance")) (hgT : Gl X T) (hmT : X.mg T = none) (hv : bootBuiltins T = some (.type n.nm))
    (hnT : T ≠ "__name__" := by decide) (hdT : (T == ("__debug__" : Str)) = false := by decide) (hn : x ≠ "__name__" := by decide) (hdb : (x == ("__debug__" : Str)) = false := by decide)
    (h1 : starEach [e, .Name T pt] X.env = (false, eval e X.env) :: starEach [.Name T pt] X.env := by rfl) (hpl : (backTo pos (starEach [.Name T pt] X.env)).any (·.1) = false := by rfl) :
    JF X W (.Call (.Name x p) [e, .Name T pt] [] pos) (m1 (fun d => some (.bl (isTy n d))) m) := by
  refine pe_imp (pe_callB call_isi hg hm hx (pa_cons he (pa_cons (pe_bltn (v := .ty n.nm) hgT hmT hv rfl hnT hdT) pa_nil (by rfl)) h1) hn hdb h1 hpl) fun σ H Q h => ?_
  obtain ⟨S0, S, μ, rr, h⟩ := h
  refine ⟨S0, S, μ, rr, Post.bnd (Z' := ZF X.K S0 σ) h fun S1 H1 μ1 d v g1 z1 h1 => ?_⟩
  exact ⟨v, .ty n.nm, .type (tyN d), .type n.nm, isTy n d, rfl, .ty n.nm, tyx z1.2, kit_ty (is_ty n d), h1 S1 H1 _ Gr.refl ⟨z1.1, rfl⟩⟩
theorem jt_chain {a b c : Expr} {ma mb mc : EV D} {op op' : CmpOp} {r r' : R2} {g g' : D → D → Option D} (ho : OpR X (compareOp op) r) (ho' : OpR X (compareOp op') r') (hg : Op2 X.K r g) (hg' : Op2 X.K r' g') (ha : JF X W a ma) (hb : JF X W b mb) (hc : JF X W c mc)
    (hm : lastMarks [op, op'] [b, c] = false := by with_unfolding_all rfl) : JT X W (.Compare a [op, op'] [b, c] pos) (mB (mCh g g' ma mb mc)) :=
  pt_imp (pt_chain ho ho' ha hb hc hm) fun σ H Q h => chain_run hg hg' (test_run h)
/-- len(x) of a name, in passing -/
def mLenB (i : Nat) : EV D := fun μ => bw μ lenD (brw μ i)
theorem j_lenB {i : Nat} {x y : Str} {px : Pos} (hN : X.N[i]? = some x) (hv : Vis X.env.scope x) (hg : Gl X y) (hm : X.mg y = none) (hx : bootBuiltins y = some (.builtin "len")) (hd : (x == ("__debug__" : Str)) = false := by decide) (hcd : (x == ("__classdict__" : Str)) = false := by decide)
    (hn : y ≠ "__name__" := by decide) (hdb : (y == ("__debug__" : Str)) = false := by decide) (h1 : starEach [.Name x px] X.env = (false, eval (.Name x px) X.env) :: starEach [] X.env := by rfl) (hpl : (backTo pos (starEach [] X.env)).any (·.1) = false := by rfl) :
    JF X W (.Call (.Name y p) [.Name x px] [] pos) (mLenB i) := by
  refine pe_imp (pe_callB call_len hg hm hx (pa_cons (pe_var hN hv hd hcd) pa_nil h1) hn hdb h1 hpl) fun σ H Q h => ?_
  obtain ⟨S0, S, μ, rr, h⟩ := h
  unfold mLenB at h
  cases q : brw μ i with
  | none =>
    rw [q] at h
    exact h.elim
  | some d =>
    rw [q] at h
    have h3 : Post X.K X.mg W S0 S σ H (ZF X.K S0 σ) (opt (lenD d) μ) Q := h
    have hs : ∃ v, σ[i]? = some (some v) := by
      unfold brw br at q
      split at q
      · rename_i q2
        obtain ⟨v, S1, S2, e1, _⟩ := rr.sl.take q2
        exact ⟨v, e1⟩
      · rename_i q2
        obtain ⟨v, S1, S2, e1, _⟩ := rr.sl.take q2
        exact ⟨v, e1⟩
      · cases q
    obtain ⟨v, ev⟩ := hs
    refine ⟨v, ev, ?_⟩
    cases q2 : lenD d with
    | none =>
      rw [q2] at h3
      exact h3.elim
    | some c =>
      rw [q2] at h3
      rcases brw_ok rr q ev with p | ⟨ds, a, vs, e1, e2, e3, e4⟩
      · obtain ⟨n, e4, l⟩ := lenD_ok p q2
        subst e4
        exact ⟨v, n, rfl, l, h3 S H _ Gr.refl ⟨rr, rfl⟩⟩
      · subst e1
        subst e2
        cases q2
        exact ⟨_, vs.length, rfl, .inl ⟨vs, SqL.of e3, rfl⟩, h3 S H _ Gr.refl ⟨rr, by rw [e4.length]; rfl⟩⟩
/-- a, b = x, y and a, b, c = x, y, z with plain names: frozen values -/
def mPar (i : List Nat) (a : EV (List D)) : MS := bnd a fun ds => fun μ => if i.length = ds.length ∧ i.all (fun j => decide (j < μ.length)) = true then some (.ok .nx, (i.zip ds).foldl (fun μ q => μ.set q.1 (some (q.2, .z))) μ) else none
theorem R.set {K : Frag} {S0 S : List Addr} {H : Hp} {σ : List (Option V)} {μ : M} {i : Nat} {d : D} {v : V} (r : R K S0 S H σ μ) (p : Rep K (mask H (S0 ++ S)) d v) (hi : i < μ.length) : ∃ S', (∀ a ∈ S', a ∈ S) ∧ R K S0 S' H (σ.set i (some v)) (μ.set i (some (d, .z))) := by
  have hl : σ.length = μ.length := r.sl.len
  exact (r.push p).store (by rw [hl]; exact hi)
theorem js_par2 {i j : Nat} {x y : Str} {a b : Expr} {px py pt : Pos} {kt k2 : Nat} {pt2 : Pos} (hpi : (pin && i == 0) = false) (hpj : (pin && j == 0) = false) (hc : X.calm = true) (hN : X.N.Nodup) (hi : X.N[i]? = some x) (hj : X.N[j]? = some y) (hij : i ≠ j)
    (hx : X.env.scope.names.lookup x = some .local) (hy : X.env.scope.names.lookup y = some .local) (ha : JA X W [a, b] ms)
    (hw : swappedStores [.Tuple [.Name x px, .Name y py] kt pt] (.Tuple [a, b] k2 pt2) X.env = pure (some [x, y]))
    (hs : swapsWithSole [.Tuple [.Name x px, .Name y py] kt pt] (.Tuple [a, b] k2 pt2) pos.line X.env = pure false := by rfl) :
    JS X W pin (.Assign [.Tuple [.Name x px, .Name y py] kt pt] (.Tuple [a, b] k2 pt2) pos) (mPar [i, j] ms) := ps_imp (ps_par hc hN hi hj hij hx hy ha hw hs) fun En σ H h => by
  obtain ⟨S0, S, μ, rr, h⟩ := h
  refine ⟨S0, S, μ, rr, PostS.bnd (Z' := ZFs X.K S0 σ) h fun S1 H1 μ1 ds vs g1 z1 h1 => ?_⟩
  by_cases hh : [i, j].length = ds.length ∧ [i, j].all (fun j => decide (j < μ1.length)) = true
  · rw [if_pos hh] at h1
    match ds, hh, z1, h1 with
    | [d, e], hh, z1, h1 =>
      obtain ⟨v, w, e1, q1, q2⟩ := reps2 z1.2
      have hb := hh.2
      simp only [List.all_cons, List.all_nil, Bool.and_true, Bool.and_eq_true, decide_eq_true_eq] at hb
      obtain ⟨S2, sub2, r2⟩ := z1.1.set q1 hb.1
      obtain ⟨S3, sub3, r3⟩ := r2.set (q2.ex (mask_sub sub2)) (i := j) (by simpa using hb.2)
      exact ⟨v, w, e1, h1 S3 H1 _ (gr_sub fun a ha => sub2 a (sub3 a ha)) ((Keep.set hpi).trans (Keep.set hpj)) r3⟩
  · rw [if_neg hh] at h1
    exact h1.elim
theorem js_par3 {i j l : Nat} {x y z : Str} {a b c : Expr} {px py pz pt : Pos} {kt k2 : Nat} {pt2 : Pos} (hpi : (pin && i == 0) = false) (hpj : (pin && j == 0) = false) (hpl : (pin && l == 0) = false) (hc : X.calm = true) (hN : X.N.Nodup) (hi : X.N[i]? = some x) (hj : X.N[j]? = some y) (hl : X.N[l]? = some z) (hij : i ≠ j) (hil : i ≠ l) (hjl : j ≠ l)
    (hx : X.env.scope.names.lookup x = some .local) (hy : X.env.scope.names.lookup y = some .local) (hz : X.env.scope.names.lookup z = some .local) (ha : JA X W [a, b, c] ms)
    (hw : swappedStores [.Tuple [.Name x px, .Name y py, .Name z pz] kt pt] (.Tuple [a, b, c] k2 pt2) X.env = pure (some [x, y, z]))
    (hs : swapsWithSole [.Tuple [.Name x px, .Name y py, .Name z pz] kt pt] (.Tuple [a, b, c] k2 pt2) pos.line X.env = pure false := by rfl) :
    JS X W pin (.Assign [.Tuple [.Name x px, .Name y py, .Name z pz] kt pt] (.Tuple [a, b, c] k2 pt2) pos) (mPar [i, j, l] ms) := ps_imp (ps_par3 hc hN hi hj hl hij hil hjl hx hy hz ha hw hs) fun En σ H h => by
  obtain ⟨S0, S, μ, rr, h⟩ := h
  refine ⟨S0, S, μ, rr, PostS.bnd (Z' := ZFs X.K S0 σ) h fun S1 H1 μ1 ds vs g1 z1 h1 => ?_⟩
  by_cases hh : [i, j, l].length = ds.length ∧ [i, j, l].all (fun j => decide (j < μ1.length)) = true
  · rw [if_pos hh] at h1
    match ds, hh, z1, h1 with
    | [d, e, f], hh, z1, h1 =>
      obtain ⟨v, w, u, e1, q1, q2, q3⟩ := reps3 z1.2
      have hb := hh.2
      simp only [List.all_cons, List.all_nil, Bool.and_true, Bool.and_eq_true, decide_eq_true_eq] at hb
      obtain ⟨S2, sub2, r2⟩ := z1.1.set q1 hb.1
      obtain ⟨S3, sub3, r3⟩ := r2.set (q2.ex (mask_sub sub2)) (i := j) (by simpa using hb.2.1)
      obtain ⟨S4, sub4, r4⟩ := r3.set ((q3.ex (mask_sub sub2)).ex (mask_sub sub3)) (i := l) (by simpa using hb.2.2)
      exact ⟨v, w, u, e1, h1 S4 H1 _ (gr_sub fun a ha => sub2 a (sub3 a (sub4 a ha))) (((Keep.set hpi).trans (Keep.set hpj)).trans (Keep.set hpl)) r4⟩
  · rw [if_neg hh] at h1
    exact h1.elim
end
end Mn
end
section
/-! Mn: the rules by which a meaning is run (simp only). -/
namespace Mn
section
variable {α β : Type} {μ : M} {i n : Nat} {d : D}
theorem giv_a {x : α} : giv x μ = some (.ok x, μ) := rfl
theorem opt_a {x : Option α} : opt x μ = op' μ x := rfl
theorem mSeq_a {a b : MS} : mSeq a b μ = sq b (a μ) := rfl
theorem mIf_a {t : EV Bool} {a b : EV α} : mIf t a b μ = Rs (t μ) fun k => cond k a b := rfl
theorem mB_a {a : EV D} : mB a μ = Rs (a μ) fun x => opt (asB x) := rfl
theorem mT_a {a : EV D} : mT a μ = Rs (a μ) fun x => opt (truth x) := rfl
theorem m1_a {g : D → Option D} {a : EV D} : m1 g a μ = Rs (a μ) fun x => opt (g x) := rfl
theorem mN_a {g : List D → Option D} {a : EV (List D)} : mN g a μ = Rs (a μ) fun x => opt (g x) := rfl
theorem m2_a {g : D → D → Option D} {a b : EV D} : m2 g a b μ = Rs (a μ) fun x => bnd b fun y => opt (g x y) := rfl
theorem mCh_a {g g' : D → D → Option D} {a b c : EV D} : mCh g g' a b c μ = Rs (a μ) fun x => bnd b fun y => bnd (opt (g x y)) (vB0 (bnd c fun w => opt (g' y w)) (giv (.bl false))) := rfl
theorem mAnd_a {a b : EV Bool} : mAnd a b μ = Rs (a μ) fun k => cond k b (giv false) := rfl
theorem mOr_a {a b : EV Bool} : mOr a b μ = Rs (a μ) fun k => cond k (giv true) b := rfl
theorem vAnd_a {a b : EV D} : vAnd a b μ = Rs (a μ) (vB b (giv (.bl false))) := rfl
theorem vOr_a {a b : EV D} : vOr a b μ = Rs (a μ) (vB (giv (.bl true)) b) := rfl
theorem vNot_a {a : EV D} : vNot a μ = Rs (a μ) fun x => opt (gNot x) := rfl
theorem vB_t {a b : EV D} : vB a b (.bl true) μ = a μ := rfl
theorem vB_f {a b : EV D} : vB a b (.bl false) μ = b μ := rfl
theorem vB0_t {a b : EV D} : vB0 a b (.bl true) μ = a μ := rfl
theorem vB0_f {a b : EV D} : vB0 a b (.bl false) μ = b μ := rfl
theorem cond_t {a b : EV α} : (cond true a b) μ = a μ := rfl
theorem cond_f {a b : EV α} : (cond false a b) μ = b μ := rfl
theorem unO_a {a : EV (D × Kd)} : unO a μ = Rs (a μ) fun dk => giv dk.1 := rfl
theorem toO_a {a : EV D} : toO a μ = Rs (a μ) fun d => giv (d, .z) := rfl
theorem mCall_a {f : Sem} {a : EV (List D)} : mCall f a μ = Rs (a μ) fun ds μ => cl μ (f ds) := rfl
theorem has_a {a : EV α} : has i a μ = hs (a μ) μ[i]? := rfl
theorem mCallIO_a {f : SemIO} {a : EV (List D)} : mCallIO i f a μ = hs (Rs (a μ) fun ds μ => cj i f ds μ μ[i]?) μ[i]? := rfl
theorem aNil_a : aNil μ = some (.ok [], μ) := rfl
theorem aCons_a {a : EV D} {r : EV (List D)} : aCons a r μ = Rs (a μ) fun x => bnd r fun xs => giv (x :: xs) := rfl
theorem rdv_a : rdv i μ = rd i μ μ[i]? := rfl
theorem mIxB_a {a : EV D} : mIxB i a μ = hs (Rs (a μ) fun j μ => bw μ (fun d => ixD d j) (brw μ i)) μ[i]? := rfl
theorem mLenB_a : mLenB i μ = bw μ lenD (brw μ i) := rfl
theorem mStIx_a {a b : EV D} : mStIx i a b μ = hs (Rs (a μ) fun d => bnd b fun j μ => ag (stL μ i j d)) μ[i]? := rfl
theorem put_a {dk : D × Kd} : put i dk μ = if i < μ.length then some (.ok .nx, μ.set i (some dk)) else none := rfl
theorem mSet_a {a : EV D} : mSet i a μ = Rs (a μ) fun x => put i (x, .z) := rfl
theorem mSetO_a {a : EV (D × Kd)} : mSetO i a μ = Rs (a μ) fun x => put i x := rfl
theorem mAug_a {g : D → D → Option D} {a : EV D} : mAug i g a μ = Rs (rdv i μ) fun x => bnd a fun y => bnd (opt (g x y)) fun z => put i (z, .z) := rfl
theorem mRet_a {a : EV D} : mRet a μ = Rs (a μ) fun x => giv (.ret x .z) := rfl
theorem mRetO_a {a : EV (D × Kd)} : mRetO a μ = Rs (a μ) fun x => giv (.ret x.1 x.2) := rfl
theorem mDrop_a {a : EV D} : mDrop a μ = Rs (a μ) fun _ => giv .nx := rfl
theorem mRaise_a {e : Exn} : mRaise e μ = some (.exn e, μ) := rfl
theorem mLstO_a {a : EV (List D)} : mLstO a μ = Rs (a μ) fun ds => opt (if ds.length ≤ 16777216 then some (.lst ds, .s .z) else none) := rfl
theorem mPar_a {l : List Nat} {a : EV (List D)} : mPar l a μ = Rs (a μ) fun ds μ' => if l.length = ds.length ∧ l.all (fun j => decide (j < μ'.length)) = true then some (.ok .nx, (l.zip ds).foldl (fun μ q => μ.set q.1 (some (q.2, .z))) μ') else none := rfl
theorem mFor_a {a : EV (List D)} {g : TgE} {b : MS} : mFor a g b μ = Rs (a μ) fun ds => mTurns g b ds := rfl
theorem mTurns_n {g : TgE} {b : MS} : mTurns g b [] μ = some (.ok .nx, μ) := rfl
theorem mTurns_c {g : TgE} {b : MS} {ds : List D} : mTurns g b (d :: ds) μ = tn b (mTurns g b ds) (g (d, .z) μ) := rfl
theorem mWh_s {t : EV Bool} {b : MS} : mWh t b (n + 1) μ = Rs (t μ) fun k => cond k (fun μ => lp (b μ) (mWh t b n)) (giv .nx) := rfl
theorem mRg_a {f : List D → Option (List D)} {a : EV (List D)} : mRg f a μ = Rs (a μ) fun ds => opt (f ds) := rfl
theorem mIt_a {f : D → Option (List D)} {a : EV D} : mIt f a μ = Rs (a μ) fun d => opt (f d) := rfl
theorem mAsg_a {a : EV D} {g : TgE} : mAsg a g μ = Rs (a μ) fun d μ => ag (g (d, .z) μ) := rfl
/-! by what is known -/
theorem ixN_at {n : Nat} {i : Int} (h0 : 0 ≤ i) (h : i < n) : L2.ixN n i = some i.toNat := by
  unfold L2.ixN
  rw [if_pos h0, if_pos h]
theorem atI_at {xs : List D} {i : Int} (h0 : 0 ≤ i) (h : i < xs.length) : L2.atI xs i = xs[i.toNat]? := by
  unfold L2.atI
  rw [ixN_at h0 h]
  rfl
theorem ixN_k {n k : Nat} : L2.ixN n (OfNat.ofNat k : Int) = if k < n then some k else none := by
  show L2.ixN n ((k : Nat) : Int) = _
  unfold L2.ixN
  rw [if_pos (Int.natCast_nonneg k)]
  by_cases h : k < n
  · rw [if_pos h, if_pos (by omega), Int.toNat_natCast]
  · rw [if_neg h, if_neg (by omega)]
theorem atI_k {xs : List D} {k : Nat} : L2.atI xs (OfNat.ofNat k : Int) = xs[k]? := by
  unfold L2.atI
  rw [ixN_k]
  by_cases h : k < xs.length
  · rw [if_pos h]
    rfl
  · rw [if_neg h]
    exact (List.getElem?_eq_none (by omega)).symm
theorem atI_0 {xs : List D} : L2.atI xs 0 = xs[0]? := atI_k
theorem ixN_0 {n : Nat} : L2.ixN n 0 = if 0 < n then some 0 else none := ixN_k
theorem atI_1 {xs : List D} : L2.atI xs 1 = xs[1]? := atI_k
theorem ixN_1 {n : Nat} : L2.ixN n 1 = if 1 < n then some 1 else none := ixN_k
theorem atI_2 {xs : List D} : L2.atI xs 2 = xs[2]? := atI_k
theorem ixN_2 {n : Nat} : L2.ixN n 2 = if 2 < n then some 2 else none := ixN_k
theorem atI_3 {xs : List D} : L2.atI xs 3 = xs[3]? := atI_k
theorem ixN_3 {n : Nat} : L2.ixN n 3 = if 3 < n then some 3 else none := ixN_k
theorem atI_4 {xs : List D} : L2.atI xs 4 = xs[4]? := atI_k
theorem ixN_4 {n : Nat} : L2.ixN n 4 = if 4 < n then some 4 else none := ixN_k
theorem atI_5 {xs : List D} : L2.atI xs 5 = xs[5]? := atI_k
theorem ixN_5 {n : Nat} : L2.ixN n 5 = if 5 < n then some 5 else none := ixN_k
theorem atI_6 {xs : List D} : L2.atI xs 6 = xs[6]? := atI_k
theorem ixN_6 {n : Nat} : L2.ixN n 6 = if 6 < n then some 6 else none := ixN_k
theorem atI_7 {xs : List D} : L2.atI xs 7 = xs[7]? := atI_k
theorem ixN_7 {n : Nat} : L2.ixN n 7 = if 7 < n then some 7 else none := ixN_k
theorem atI_8 {xs : List D} : L2.atI xs 8 = xs[8]? := atI_k
theorem ixN_8 {n : Nat} : L2.ixN n 8 = if 8 < n then some 8 else none := ixN_k
theorem atI_9 {xs : List D} : L2.atI xs 9 = xs[9]? := atI_k
theorem ixN_9 {n : Nat} : L2.ixN n 9 = if 9 < n then some 9 else none := ixN_k
theorem atI_10 {xs : List D} : L2.atI xs 10 = xs[10]? := atI_k
theorem ixN_10 {n : Nat} : L2.ixN n 10 = if 10 < n then some 10 else none := ixN_k
theorem atI_11 {xs : List D} : L2.atI xs 11 = xs[11]? := atI_k
theorem ixN_11 {n : Nat} : L2.ixN n 11 = if 11 < n then some 11 else none := ixN_k
theorem atI_12 {xs : List D} : L2.atI xs 12 = xs[12]? := atI_k
theorem ixN_12 {n : Nat} : L2.ixN n 12 = if 12 < n then some 12 else none := ixN_k
theorem atI_13 {xs : List D} : L2.atI xs 13 = xs[13]? := atI_k
theorem ixN_13 {n : Nat} : L2.ixN n 13 = if 13 < n then some 13 else none := ixN_k
theorem atI_14 {xs : List D} : L2.atI xs 14 = xs[14]? := atI_k
theorem ixN_14 {n : Nat} : L2.ixN n 14 = if 14 < n then some 14 else none := ixN_k
theorem atI_15 {xs : List D} : L2.atI xs 15 = xs[15]? := atI_k
theorem ixN_15 {n : Nat} : L2.ixN n 15 = if 15 < n then some 15 else none := ixN_k
theorem atI_16 {xs : List D} : L2.atI xs 16 = xs[16]? := atI_k
theorem ixN_16 {n : Nat} : L2.ixN n 16 = if 16 < n then some 16 else none := ixN_k
theorem sq_nx {b : MS} : sq b (some (.ok .nx, μ)) = b μ := rfl
theorem sq_ct {b : MS} : sq b (some (.ok .cont, μ)) = some (.ok .cont, μ) := rfl
theorem sq_bk {b : MS} : sq b (some (.ok .brk, μ)) = some (.ok .brk, μ) := rfl
theorem sq_rt {b : MS} {k : Kd} : sq b (some (.ok (.ret d k), μ)) = some (.ok (.ret d k), μ) := rfl
theorem sq_ex {b : MS} {e : Exn} : sq b (some (.exn e, μ)) = some (.exn e, μ) := rfl
theorem lp_nx {b : MS} : lp (some (.ok .nx, μ)) b = b μ := rfl
theorem lp_ct {b : MS} : lp (some (.ok .cont, μ)) b = b μ := rfl
theorem lp_bk {b : MS} : lp (some (.ok .brk, μ)) b = some (.ok .nx, μ) := rfl
theorem lp_rt {b : MS} {k : Kd} : lp (some (.ok (.ret d k), μ)) b = some (.ok (.ret d k), μ) := rfl
theorem lp_ex {b : MS} {e : Exn} : lp (some (.exn e, μ)) b = some (.exn e, μ) := rfl
theorem tn_s {b c : MS} : tn b c (some μ) = lp (b μ) c := rfl
theorem rd_z : rd i μ (some (some (d, .z))) = some (.ok d, μ) := rfl
theorem rd_s {k : Kd} : rd i μ (some (some (d, .s k))) = some (.ok d, μ.set i (some (d, .z))) := rfl
theorem hs_s {r : Option (Res α × M)} {o : D × Kd} : hs r (some (some o)) = r := rfl
theorem cl_s {r : Res (D × Kd)} : cl μ (some r) = some (r, μ) := rfl
theorem ci_s {r : Res (D × Kd)} {o : D × Kd} : ci i μ (some (r, o)) = some (r, μ.set i (some o)) := rfl
theorem cj_s {f : SemIO} {ds : List D} {o : D × Kd} : cj i f ds μ (some (some o)) = ci i μ (f o ds) := rfl
theorem bw_s {f : D → Option α} : bw μ f (some d) = op' μ (f d) := rfl
theorem brw_a : brw μ i = br μ[i]? := rfl
theorem br_z : br (some (some (d, .z))) = some d := rfl
theorem br_l {ds : List D} : br (some (some (.lst ds, .s .z))) = some (.lst ds) := rfl
theorem ownL_a : ownL μ i = ow μ[i]? := rfl
theorem ow_l {ds : List D} : ow (some (some (.lst ds, .s .z))) = some ds := rfl
theorem ag_s : ag (some μ) = some (.ok .nx, μ) := rfl
theorem op_s {x : α} : op' μ (some x) = some (.ok x, μ) := rfl
theorem asB_b {b : Bool} : asB (.bl b) = some b := rfl
theorem asI_i {j : Int} : asI (.int j) = some j := rfl
theorem stL_a {j e : D} : stL μ i j e = (ownL μ i).bind fun ds => (asI j).bind fun n => (L2.ixN ds.length n).map fun t => μ.set i (some (.lst (ds.set t e), .s .z)) := rfl
theorem gN_a {o : D × Kd} : gN i o μ = if i < μ.length then some (μ.set i (some o)) else none := rfl
theorem gAdd_a {a b : Int} : gAdd (.int a) (.int b) = some (.int (a + b)) := rfl
theorem gSub_a {a b : Int} : gSub (.int a) (.int b) = some (.int (a - b)) := rfl
theorem gXor_a {a b : Int} : gXor (.int a) (.int b) = some (.int (PySem.Builtin.bitXor a b)) := rfl
theorem gAnd_a {a b : Int} : gAnd (.int a) (.int b) = some (.int (PySem.Builtin.bitAnd a b)) := rfl
theorem gLt_a {a b : Int} : gLt (.int a) (.int b) = some (.bl (decide (a < b))) := rfl
theorem gLe_a {a b : Int} : gLe (.int a) (.int b) = some (.bl (decide (a ≤ b))) := rfl
theorem gGt_a {a b : Int} : gGt (.int a) (.int b) = some (.bl (decide (b < a))) := rfl
theorem gGe_a {a b : Int} : gGe (.int a) (.int b) = some (.bl (decide (b ≤ a))) := rfl
theorem gMul_a {a b : Int} : gMul (.int a) (.int b) = bif sm a || sm b then some (.int (a * b)) else none := rfl
theorem gDiv_a {a b : Int} : gDiv (.int a) (.int b) = bif decide (0 < b) && decide (b < 1073741824) then some (.int (a / b)) else none := rfl
theorem gMod_a {a b : Int} : gMod (.int a) (.int b) = bif decide (0 < b) then some (.int (a % b)) else none := rfl
theorem gPow_a {a b : Int} : gPow (.int a) (.int b) = bif decide (0 ≤ b) && decide (b ≤ 1000000) && decide (a.natAbs < 18446744073709551616) then some (.int (a ^ b.toNat)) else none := rfl
theorem gNeg_a {a : Int} : gNeg (.int a) = some (.int (-a)) := rfl
theorem gNot_a {b : Bool} : gNot (.bl b) = some (.bl !b) := rfl
theorem gEq_a {e : D} : gEq d e = (eqS d e).map fun b => .bl b := rfl
theorem gNe_a {e : D} : gNe d e = (eqS d e).map fun b => .bl !b := rfl
theorem eqS_i {a b : Int} : eqS (.int a) (.int b) = some (decide (a = b)) := rfl
theorem eqS_b {a b : Bool} : eqS (.bl a) (.bl b) = some (decide (a = b)) := rfl
theorem eqS_s {a b : List Nat} : eqS (.str a) (.str b) = some (decide (a = b)) := rfl
theorem eqS_n : eqS .non .non = some true := rfl
theorem eqS_ni {b : Int} : eqS .non (.int b) = some false := rfl
theorem eqS_in {b : Int} : eqS (.int b) .non = some false := rfl
theorem lenD_l {ds : List D} : lenD (.lst ds) = some (.int ds.length) := rfl
theorem lenD_t {ds : List D} : lenD (.tup ds) = some (.int ds.length) := rfl
theorem lenD_s {x : List Nat} : lenD (.str x) = if x.length ≤ 16777216 then some (.int x.length) else none := rfl
theorem intD_i {a : Int} : intD (.int a) = some (.int a) := rfl
theorem intD_b {b : Bool} : intD (.bl b) = some (.int (if b then 1 else 0)) := rfl
theorem n1_a {f : D → Option D} : n1 f [d] = f d := rfl
theorem lim_a {ds : List D} : lim ds d = if ds.length ≤ 16777216 then some d else none := rfl
theorem ixD_l {ds : List D} {a : Int} : ixD (.lst ds) (.int a) = L2.atI ds a := rfl
theorem ixD_t {ds : List D} {a : Int} : ixD (.tup ds) (.int a) = L2.atI ds a := rfl
theorem truth_n : truth .non = some false := rfl
theorem truth_b {b : Bool} : truth (.bl b) = some b := rfl
theorem truth_i {a : Int} : truth (.int a) = some (a != 0) := rfl
theorem truth_t {ds : List D} : truth (.tup ds) = some (!ds.isEmpty) := rfl
theorem truth_l {ds : List D} : truth (.lst ds) = some (!ds.isEmpty) := rfl
theorem isTy_ii {a : Int} : isTy .int (.int a) = true := rfl
theorem isTy_ib {b : Bool} : isTy .int (.bl b) = true := rfl
theorem isTy_in : isTy .int .non = false := rfl
theorem isTy_is {x : List Nat} : isTy .int (.str x) = false := rfl
theorem isTy_it {ds : List D} : isTy .int (.tup ds) = false := rfl
theorem isTy_il {ds : List D} : isTy .int (.lst ds) = false := rfl
theorem isTy_bi {a : Int} : isTy .bool (.int a) = false := rfl
theorem isTy_bb {b : Bool} : isTy .bool (.bl b) = true := rfl
theorem isTy_ss {x : List Nat} : isTy .str (.str x) = true := rfl
theorem isTy_si {a : Int} : isTy .str (.int a) = false := rfl
theorem isTy_sb {b : Bool} : isTy .str (.bl b) = false := rfl
theorem isTy_sn : isTy .str .non = false := rfl
theorem isTy_st {ds : List D} : isTy .str (.tup ds) = false := rfl
theorem isTy_sl {ds : List D} : isTy .str (.lst ds) = false := rfl
theorem isTy_tt {ds : List D} : isTy .tuple (.tup ds) = true := rfl
theorem isTy_ti {a : Int} : isTy .tuple (.int a) = false := rfl
theorem isTy_tb {b : Bool} : isTy .tuple (.bl b) = false := rfl
theorem isTy_tn : isTy .tuple .non = false := rfl
theorem isTy_ts {x : List Nat} : isTy .tuple (.str x) = false := rfl
theorem isTy_tl {ds : List D} : isTy .tuple (.lst ds) = false := rfl
theorem isTy_ll {ds : List D} : isTy .list (.lst ds) = true := rfl
theorem isTy_li {a : Int} : isTy .list (.int a) = false := rfl
theorem isTy_lb {b : Bool} : isTy .list (.bl b) = false := rfl
theorem isTy_ln : isTy .list .non = false := rfl
theorem isTy_ls {x : List Nat} : isTy .list (.str x) = false := rfl
theorem isTy_lt {ds : List D} : isTy .list (.tup ds) = false := rfl
theorem endsOf_r {k : Kd} : endsOf (some (.ok (.ret d k), μ)) = some (.ok (d, k)) := rfl
theorem endsOf_n : endsOf (some (.ok .nx, μ)) = some (.ok (.non, .z)) := rfl
theorem endsOf_e {e : Exn} : endsOf (some (.exn e, μ)) = some (.exn e) := rfl
theorem endsIO_r {k : Kd} {o : D × Kd} : endsIO (some (.ok (.ret d k), some o :: μ)) = some (.ok (d, k), o) := rfl
theorem endsIO_n {o : D × Kd} : endsIO (some (.ok .nx, some o :: μ)) = some (.ok (.non, .z), o) := rfl
theorem endsIO_e {e : Exn} {o : D × Kd} : endsIO (some (.exn e, some o :: μ)) = some (.exn e, o) := rfl
theorem rng1_a {j : Int} : rng1 [.int j] = bif inR j then some (rangeD 0 j) else none := rfl
theorem rng2_a {j k : Int} : rng2 [.int j, .int k] = bif inR j && inR k then some (rangeD j k) else none := rfl
/-! the turns of a for by what a turn does -/
theorem turns_fold {S : Type} {g : TgE} {b : MS} {enc : S → M} {step : S → D → S} {ok : S → Prop} : ∀ (ds : List D) (s : S), ok s →
    (∀ s d, ok s → d ∈ ds → ok (step s d) ∧ ∃ μ1, g (d, .z) (enc s) = some μ1 ∧ (b μ1 = some (.ok .nx, enc (step s d)) ∨ b μ1 = some (.ok .cont, enc (step s d)))) →
    mTurns g b ds (enc s) = some (.ok .nx, enc (ds.foldl step s)) ∧ ok (ds.foldl step s)
  | [], s, h, _ => ⟨rfl, h⟩
  | d :: ds, s, h, hs => by
    obtain ⟨h1, μ1, e1, e2⟩ := hs s d h List.mem_cons_self
    have ih := turns_fold (g := g) (b := b) (enc := enc) (step := step) (ok := ok) ds (step s d) h1 fun s d' q m => hs s d' q (List.mem_cons_of_mem _ m)
    refine ⟨?_, ih.2⟩
    rw [mTurns_c, e1]
    rcases e2 with e2 | e2
    · show lp (b μ1) _ = _
      rw [e2]
      exact ih.1
    · show lp (b μ1) _ = _
      rw [e2]
      exact ih.1
/-- .. by an invariant -/
theorem turns_inv {g : TgE} {b : MS} {I : M → Prop} : ∀ (ds : List D) (μ : M), I μ →
    (∀ μ d, I μ → d ∈ ds → ∃ μ1, g (d, .z) μ = some μ1 ∧ ∃ μ2, I μ2 ∧ (b μ1 = some (.ok .nx, μ2) ∨ b μ1 = some (.ok .cont, μ2))) →
    ∃ μ2, mTurns g b ds μ = some (.ok .nx, μ2) ∧ I μ2
  | [], μ, h, _ => ⟨μ, rfl, h⟩
  | d :: ds, μ, h, hs => by
    obtain ⟨μ1, e1, μ2, h2, e2⟩ := hs μ d h List.mem_cons_self
    obtain ⟨μ3, e3, h3⟩ := turns_inv (g := g) (b := b) (I := I) ds μ2 h2 fun μ d' q m => hs μ d' q (List.mem_cons_of_mem _ m)
    refine ⟨μ3, ?_, h3⟩
    rw [mTurns_c, e1]
    rcases e2 with e2 | e2
    · show lp (b μ1) _ = _
      rw [e2]
      exact e3
    · show lp (b μ1) _ = _
      rw [e2]
      exact e3
end
end Mn
end
section
namespace G
open PySem PySem.Spec PyProof.Rows L2 Mn
def topS (i : Nat) : Stmt := PySem.Challenge.pw_squaremark_k18_whole_sums_and_products.main.body.getD i (.Pass ⟨0, 0, 0, 0⟩)
theorem bb_bool : bootBuiltins "bool" = some (.type "bool") := by decide +kernel
theorem bb_int : bootBuiltins "int" = some (.type "int") := by decide +kernel
theorem bb_isinstance : bootBuiltins "isinstance" = some (.builtin "isinstance") := by decide +kernel
theorem bb_len : bootBuiltins "len" = some (.builtin "len") := by decide +kernel
theorem bb_range : bootBuiltins "range" = some (.type "range") := by decide +kernel
structure Tx (K : Frag) (mg : Str → Option Value) : Prop where
  free_bool : mg "bool" = none
  free_int : mg "int" = none
  free_isinstance : mg "isinstance" = none
  free_len : mg "len" = none
  free_range : mg "range" = none
  int_FIELD_SIZE : ∃ t, mg "FIELD_SIZE" = some (.int 16 t)
  int_MAX_SYMBOL : ∃ t, mg "MAX_SYMBOL" = some (.int 15 t)
  int_REDUCTION : ∃ t, mg "REDUCTION" = some (.int 3 t)
  exc_InvalidSymbol : ExcF K mg "InvalidSymbol"
  g_is_integer : mg "is_integer" = some (.ref (He.ga K "is_integer"))
  d_is_integer : ∃ fd, FunD K "is_integer" "is_integer" (defArgs (topS 7)) (defBody (topS 7)) (defScope (topS 7)) [] [] (He.ga K "is_integer") fd
  g_is_symbol : mg "is_symbol" = some (.ref (He.ga K "is_symbol"))
  d_is_symbol : ∃ fd, FunD K "is_symbol" "is_symbol" (defArgs (topS 8)) (defBody (topS 8)) (defScope (topS 8)) [] [] (He.ga K "is_symbol") fd
  g_check_symbols : mg "check_symbols" = some (.ref (He.ga K "check_symbols"))
  d_check_symbols : ∃ fd, FunD K "check_symbols" "check_symbols" (defArgs (topS 9)) (defBody (topS 9)) (defScope (topS 9)) [] [] (He.ga K "check_symbols") fd
  g_product : mg "product" = some (.ref (He.ga K "product"))
  d_product : ∃ fd, FunD K "product" "product" (defArgs (topS 10)) (defBody (topS 10)) (defScope (topS 10)) [] [] (He.ga K "product") fd
  g_inverse : mg "inverse" = some (.ref (He.ga K "inverse"))
  d_inverse : ∃ fd, FunD K "inverse" "inverse" (defArgs (topS 11)) (defBody (topS 11)) (defScope (topS 11)) [] [] (He.ga K "inverse") fd
  g_add : mg "add" = some (.ref (He.ga K "add"))
  d_add : ∃ fd, FunD K "add" "add" (defArgs (topS 12)) (defBody (topS 12)) (defScope (topS 12)) [] [] (He.ga K "add") fd
  g_multiply : mg "multiply" = some (.ref (He.ga K "multiply"))
  d_multiply : ∃ fd, FunD K "multiply" "multiply" (defArgs (topS 13)) (defBody (topS 13)) (defScope (topS 13)) [] [] (He.ga K "multiply") fd
  g_divide : mg "divide" = some (.ref (He.ga K "divide"))
  d_divide : ∃ fd, FunD K "divide" "divide" (defArgs (topS 14)) (defBody (topS 14)) (defScope (topS 14)) [] [] (He.ga K "divide") fd
  g__law_taken : mg "_law_taken" = some (.ref (He.ga K "_law_taken"))
  d__law_taken : ∃ fd, FunD K "_law_taken" "_law_taken" (defArgs (topS 16)) (defBody (topS 16)) (defScope (topS 16)) [] [] (He.ga K "_law_taken") fd
  g_law : mg "law" = some (.ref (He.ga K "law"))
  d_law : ∃ fd, FunD K "law" "law" (defArgs (topS 17)) (defBody (topS 17)) (defScope (topS 17)) [] [] (He.ga K "law") fd
section
variable {P : Program} {w : World} {K : Frag} {mg : Str → Option Value} {base : Heap}
/-! is_integer -/
abbrev s_is_integer : Stmt := topS 7
theorem sc_is_integer : FnScope ["value", "low", "high"] ["value", "low", "high"] (defScope s_is_integer) := ⟨rfl, rfl, rfl, by decide +kernel, rfl, by decide +kernel, by decide +kernel⟩
def b_is_integer : MS := mRet (vAnd (m1 (fun d => some (.bl (isTy .int d))) (rdv 0)) (vAnd (vNot (m1 (fun d => some (.bl (isTy .bool d))) (rdv 0))) (mCh gLe gLe (rdv 1) (rdv 0) (rdv 2))))
def f_is_integer : Sem := semF 3 3 b_is_integer
theorem ok_is_integer (T : Tx K mg) : Cal P w K mg base 1 "is_integer" 3 f_is_integer :=
  cal_of T.d_is_integer sc_is_integer T.g_is_integer (fun fd F => F.bindsN fun _ _ _ _ _ _ us hl => match us, hl with | [_, _, _], _ => rfl) fun cdv A outer s H E hr tk =>
  have SC := sc_is_integer
  (jb_one (js_ret (j_and (j_isi (n := .int) (j_var (i := 0) rfl (.inl rfl)) rfl T.free_isinstance bb_isinstance rfl T.free_int bb_int) (j_and (j_not (j_isi (n := .bool) (j_var (i := 0) rfl (.inl rfl)) rfl T.free_isinstance bb_isinstance rfl T.free_bool bb_bool)) (j_one (j_chain op_le op_le o_le o_le (j_var (i := 1) rfl (.inl rfl)) (j_var (i := 0) rfl (.inl rfl)) (j_var (i := 2) rfl (.inl rfl))))))))
/-! is_symbol -/
abbrev s_is_symbol : Stmt := topS 8
theorem sc_is_symbol : FnScope ["value"] ["value"] (defScope s_is_symbol) := ⟨rfl, rfl, rfl, by decide +kernel, rfl, by decide +kernel, by decide +kernel⟩
def b_is_symbol : MS := mRetO (mCall f_is_integer (aCons (rdv 0) (aCons (giv (.int 0)) (aCons (giv (.int 15)) (aNil)))))
def f_is_symbol : Sem := semF 1 1 b_is_symbol
theorem ok_is_symbol (T : Tx K mg) : Cal P w K mg base 2 "is_symbol" 1 f_is_symbol :=
  cal_of T.d_is_symbol sc_is_symbol T.g_is_symbol (fun fd F => F.bindsN fun _ _ _ _ _ _ us hl => match us, hl with | [_], _ => rfl) fun cdv A outer s H E hr tk =>
  have SC := sc_is_symbol
  (jb_one (js_retO (jo_cal (ok_is_integer T) hr (by decide) rfl tk (ja_cons (j_var (i := 0) rfl (.inl rfl)) (ja_cons j_int (ja_cons (j_gint rfl T.int_MAX_SYMBOL) ja_nil))))))
/-! check_symbols -/
abbrev s_check_symbols : Stmt := topS 9
theorem sc_check_symbols : FnScope ["left", "right"] ["left", "right"] (defScope s_check_symbols) := ⟨rfl, rfl, rfl, by decide +kernel, rfl, by decide +kernel, by decide +kernel⟩
def b_check_symbols : MS := mIf (mOr (bnd (mT (unO (mCall f_is_symbol (aCons (rdv 0) (aNil))))) fun b => giv !b) (bnd (mT (unO (mCall f_is_symbol (aCons (rdv 1) (aNil))))) fun b => giv !b))
    (mRaise ⟨"InvalidSymbol", []⟩)
    (giv .nx)
def f_check_symbols : Sem := semF 2 2 b_check_symbols
theorem ok_check_symbols (T : Tx K mg) : Cal P w K mg base 3 "check_symbols" 2 f_check_symbols :=
  cal_of T.d_check_symbols sc_check_symbols T.g_check_symbols (fun fd F => F.bindsN fun _ _ _ _ _ _ us hl => match us, hl with | [_, _], _ => rfl) fun cdv A outer s H E hr tk =>
  have SC := sc_check_symbols
  (jb_one (js_if (jt_w (jw_or (jt_not (jt_truth (j_unO (jo_cal (ok_is_symbol T) hr (by decide) rfl tk (ja_cons (j_var (i := 0) rfl (.inl rfl)) ja_nil))))) (jw_or1 (jt_not (jt_truth (j_unO (jo_cal (ok_is_symbol T) hr (by decide) rfl tk (ja_cons (j_var (i := 1) rfl (.inl rfl)) ja_nil)))))))) (jb_one (js_raise0 rfl T.exc_InvalidSymbol rfl tk)) jb_nil))
/-! product -/
abbrev s_product : Stmt := topS 10
theorem sc_product : FnScope ["left", "right", "result"] ["left", "right"] (defScope s_product) := ⟨rfl, rfl, rfl, by decide +kernel, rfl, by decide +kernel, by decide +kernel⟩
def l_product_0 : MS := mSeq (mIf (mB (m2 gEq (m2 gMod (mN (n1 intD) (aCons (rdv 1) (aNil))) (giv (.int 2))) (giv (.int 1))))
    (mAug 2 gXor (rdv 0))
    (giv .nx))
  (mSeq (mAug 0 gMul (giv (.int 2)))
  (mSeq (mIf (mB (m2 gGe (rdv 0) (giv (.int 16))))
    (mSet 0 (m2 gXor (m2 gSub (rdv 0) (giv (.int 16))) (giv (.int 3))))
    (giv .nx))
  (mAug 1 gDiv (giv (.int 2)))))
def b_product : MS := mSeq (mSet 2 (giv (.int 0)))
  (mSeq (mWh (mB (m2 gGt (rdv 1) (giv (.int 0)))) l_product_0 2000)
  (mRet (rdv 2)))
def f_product : Sem := semF 2 3 b_product
theorem ok_product (T : Tx K mg) : Cal P w K mg base 1 "product" 2 f_product :=
  cal_of T.d_product sc_product T.g_product (fun fd F => F.bindsN fun _ _ _ _ _ _ us hl => match us, hl with | [_, _], _ => rfl) fun cdv A outer s H E hr tk =>
  have SC := sc_product
  (jb_cons (js_set (i := 2) rfl SC.nd rfl (.inl rfl) j_int)
  (jb_cons (js_while (n := 2000) (passes_of rfl) (jt_cmp op_gt o_gt (j_var (i := 1) rfl (.inl rfl)) j_int (nomark _)) (jb_cons (js_if (jt_cmp op_eq o_eq (j_op op_mod o_mod (j_callTy call_int1 o_int rfl T.free_int bb_int (ja_cons (j_var (i := 1) rfl (.inl rfl)) ja_nil)) j_int) j_int (nomark _)) (jb_one (js_aug (i := 2) rfl SC.nd rfl (.inl rfl) iop_xor o_xor (j_var (i := 0) rfl (.inl rfl)))) jb_nil)
  (jb_cons (js_aug (i := 0) rfl SC.nd rfl (.inl rfl) iop_mul o_mul j_int)
  (jb_cons (js_if (jt_cmp op_ge o_ge (j_var (i := 0) rfl (.inl rfl)) (j_gint rfl T.int_FIELD_SIZE) (nomark _)) (jb_one (js_set (i := 0) rfl SC.nd rfl (.inl rfl) (j_op op_xor o_xor (j_op op_sub o_sub (j_var (i := 0) rfl (.inl rfl)) (j_gint rfl T.int_FIELD_SIZE)) (j_gint rfl T.int_REDUCTION)))) jb_nil)
  (jb_one (js_aug (i := 1) rfl SC.nd rfl (.inl rfl) iop_fdiv o_div j_int))))))
  (jb_one (js_ret (j_var (i := 2) rfl (.inl rfl))))))
/-! inverse -/
abbrev s_inverse : Stmt := topS 11
theorem sc_inverse : FnScope ["symbol", "result"] ["symbol"] (defScope s_inverse) := ⟨rfl, rfl, rfl, by decide +kernel, rfl, by decide +kernel, by decide +kernel⟩
def l_inverse_0 : MS := mAug 1 gAdd (giv (.int 1))
def b_inverse : MS := mSeq (mSet 1 (giv (.int 1)))
  (mSeq (mWh (mB (m2 gNe (unO (mCall f_product (aCons (rdv 1) (aCons (rdv 0) (aNil))))) (giv (.int 1)))) l_inverse_0 2000)
  (mRet (rdv 1)))
def f_inverse : Sem := semF 1 2 b_inverse
theorem ok_inverse (T : Tx K mg) : Cal P w K mg base 2 "inverse" 1 f_inverse :=
  cal_of T.d_inverse sc_inverse T.g_inverse (fun fd F => F.bindsN fun _ _ _ _ _ _ us hl => match us, hl with | [_], _ => rfl) fun cdv A outer s H E hr tk =>
  have SC := sc_inverse
  (jb_cons (js_set (i := 1) rfl SC.nd rfl (.inl rfl) j_int)
  (jb_cons (js_while (n := 2000) (passes_of rfl) (jt_cmp op_ne o_ne (j_unO (jo_cal (ok_product T) hr (by decide) rfl tk (ja_cons (j_var (i := 1) rfl (.inl rfl)) (ja_cons (j_var (i := 0) rfl (.inl rfl)) ja_nil)))) j_int (nomark _)) (jb_one (js_aug (i := 1) rfl SC.nd rfl (.inl rfl) iop_add o_add j_int)))
  (jb_one (js_ret (j_var (i := 1) rfl (.inl rfl))))))
/-! add -/
abbrev s_add : Stmt := topS 12
theorem sc_add : FnScope ["left", "right"] ["left", "right"] (defScope s_add) := ⟨rfl, rfl, rfl, by decide +kernel, rfl, by decide +kernel, by decide +kernel⟩
def b_add : MS := mSeq (mDrop (unO (mCall f_check_symbols (aCons (rdv 0) (aCons (rdv 1) (aNil))))))
  (mRet (m2 gXor (rdv 0) (rdv 1)))
def f_add : Sem := semF 2 2 b_add
theorem ok_add (T : Tx K mg) : Cal P w K mg base 4 "add" 2 f_add :=
  cal_of T.d_add sc_add T.g_add (fun fd F => F.bindsN fun _ _ _ _ _ _ us hl => match us, hl with | [_, _], _ => rfl) fun cdv A outer s H E hr tk =>
  have SC := sc_add
  (jb_cons (js_expr (j_unO (jo_cal (ok_check_symbols T) hr (by decide) rfl tk (ja_cons (j_var (i := 0) rfl (.inl rfl)) (ja_cons (j_var (i := 1) rfl (.inl rfl)) ja_nil)))))
  (jb_one (js_ret (j_op op_xor o_xor (j_var (i := 0) rfl (.inl rfl)) (j_var (i := 1) rfl (.inl rfl))))))
/-! multiply -/
abbrev s_multiply : Stmt := topS 13
theorem sc_multiply : FnScope ["left", "right"] ["left", "right"] (defScope s_multiply) := ⟨rfl, rfl, rfl, by decide +kernel, rfl, by decide +kernel, by decide +kernel⟩
def b_multiply : MS := mSeq (mDrop (unO (mCall f_check_symbols (aCons (rdv 0) (aCons (rdv 1) (aNil))))))
  (mRetO (mCall f_product (aCons (rdv 0) (aCons (rdv 1) (aNil)))))
def f_multiply : Sem := semF 2 2 b_multiply
theorem ok_multiply (T : Tx K mg) : Cal P w K mg base 4 "multiply" 2 f_multiply :=
  cal_of T.d_multiply sc_multiply T.g_multiply (fun fd F => F.bindsN fun _ _ _ _ _ _ us hl => match us, hl with | [_, _], _ => rfl) fun cdv A outer s H E hr tk =>
  have SC := sc_multiply
  (jb_cons (js_expr (j_unO (jo_cal (ok_check_symbols T) hr (by decide) rfl tk (ja_cons (j_var (i := 0) rfl (.inl rfl)) (ja_cons (j_var (i := 1) rfl (.inl rfl)) ja_nil)))))
  (jb_one (js_retO (jo_cal (ok_product T) hr (by decide) rfl tk (ja_cons (j_var (i := 0) rfl (.inl rfl)) (ja_cons (j_var (i := 1) rfl (.inl rfl)) ja_nil))))))
/-! divide -/
abbrev s_divide : Stmt := topS 14
theorem sc_divide : FnScope ["left", "right"] ["left", "right"] (defScope s_divide) := ⟨rfl, rfl, rfl, by decide +kernel, rfl, by decide +kernel, by decide +kernel⟩
def b_divide : MS := mSeq (mDrop (unO (mCall f_check_symbols (aCons (rdv 0) (aCons (rdv 1) (aNil))))))
  (mSeq (mIf (mB (m2 gEq (rdv 1) (giv (.int 0))))
    (mRaise ⟨"InvalidSymbol", []⟩)
    (giv .nx))
  (mRetO (mCall f_product (aCons (rdv 0) (aCons (unO (mCall f_inverse (aCons (rdv 1) (aNil)))) (aNil))))))
def f_divide : Sem := semF 2 2 b_divide
theorem ok_divide (T : Tx K mg) : Cal P w K mg base 4 "divide" 2 f_divide :=
  cal_of T.d_divide sc_divide T.g_divide (fun fd F => F.bindsN fun _ _ _ _ _ _ us hl => match us, hl with | [_, _], _ => rfl) fun cdv A outer s H E hr tk =>
  have SC := sc_divide
  (jb_cons (js_expr (j_unO (jo_cal (ok_check_symbols T) hr (by decide) rfl tk (ja_cons (j_var (i := 0) rfl (.inl rfl)) (ja_cons (j_var (i := 1) rfl (.inl rfl)) ja_nil)))))
  (jb_cons (js_if (jt_cmp op_eq o_eq (j_var (i := 1) rfl (.inl rfl)) j_int (nomark _)) (jb_one (js_raise0 rfl T.exc_InvalidSymbol rfl tk)) jb_nil)
  (jb_one (js_retO (jo_cal (ok_product T) hr (by decide) rfl tk (ja_cons (j_var (i := 0) rfl (.inl rfl)) (ja_cons (j_unO (jo_cal (ok_inverse T) hr (by decide) rfl tk (ja_cons (j_var (i := 1) rfl (.inl rfl)) ja_nil))) ja_nil)))))))
/-! _law_taken -/
abbrev s__law_taken : Stmt := topS 16
theorem sc__law_taken : FnScope ["_law_row", "_law_many", "_law_cell", "_law_found"] ["_law_row", "_law_many"] (defScope s__law_taken) := ⟨rfl, rfl, rfl, by decide +kernel, rfl, by decide +kernel, by decide +kernel⟩
def b__law_taken : MS := mSeq (mIf (mB (m2 gGt (mIxB 0 (giv (.int 3))) (giv (.int 0))))
    (mSeq (mSet 3 (m2 gMod (mN (n1 intD) (aCons (mIxB 0 (giv (.int 3))) (aNil))) (rdv 1)))
  (mSeq (mStIx 0 (m2 gDiv (mIxB 0 (giv (.int 3))) (rdv 1)) (giv (.int 3)))
  (mRet (rdv 3))))
    (giv .nx))
  (mSeq (mStIx 0 (m2 gAdd (mIxB 0 (giv (.int 1))) (giv (.int 1))) (giv (.int 1)))
  (mSeq (mIf (mB (m2 gGt (mIxB 0 (giv (.int 1))) (mN (n1 lenD) (aCons (mIxB 0 (giv (.int 0))) (aNil)))))
    (mSeq (mStIx 0 (m2 gMod (mN (n1 intD) (aCons (m2 gAdd (m2 gMul (mIxB 0 (giv (.int 2))) (giv (.int 48271))) (giv (.int 11))) (aNil))) (giv (.int 2147483647))) (giv (.int 2)))
  (mRet (m2 gMod (mN (n1 intD) (aCons (m2 gDiv (mIxB 0 (giv (.int 2))) (giv (.int 7))) (aNil))) (rdv 1))))
    (giv .nx))
  (mSeq (mSet 2 (m2 ixD (mIxB 0 (giv (.int 0))) (m2 gSub (mIxB 0 (giv (.int 1))) (giv (.int 1)))))
  (mSeq (mStIx 0 (m2 gMod (mN (n1 intD) (aCons (m2 gAdd (m2 gAdd (m2 gMul (mIxB 0 (giv (.int 2))) (giv (.int 48271))) (rdv 2)) (giv (.int 11))) (aNil))) (giv (.int 2147483647))) (giv (.int 2)))
  (mSeq (mIf (mB (m2 gGe (rdv 2) (m2 gPow (giv (.int 10)) (giv (.int 18)))))
    (mStIx 0 (m2 gDiv (rdv 2) (rdv 1)) (giv (.int 3)))
    (giv .nx))
  (mRet (m2 gMod (mN (n1 intD) (aCons (rdv 2) (aNil))) (rdv 1))))))))
def f__law_taken : SemIO := semIO 2 4 b__law_taken
theorem ok__law_taken (T : Tx K mg) : CalIO P w K mg base 1 "_law_taken" 2 f__law_taken :=
  calIO_of T.d__law_taken sc__law_taken (by decide) T.g__law_taken (fun fd F => F.bindsN fun _ _ _ _ _ _ us hl => match us, hl with | [_, _], _ => rfl) fun cdv A outer s H E hr tk =>
  have SC := sc__law_taken
  (jb_cons (js_if (jt_cmp op_gt o_gt (j_ixB (i := 0) rfl (.inl rfl) j_int (fun _ _ => rfl)) j_int (nomark _)) (jb_cons (js_set (i := 3) rfl SC.nd rfl (.inl rfl) (j_op op_mod o_mod (j_callTy call_int1 o_int rfl T.free_int bb_int (ja_cons (j_ixB (i := 0) rfl (.inl rfl) j_int (fun _ _ => rfl)) ja_nil)) (j_var (i := 1) rfl (.inl rfl))))
  (jb_cons (js_stIx (i := 0) rfl (.inl rfl) (j_op op_fdiv o_div (j_ixB (i := 0) rfl (.inl rfl) j_int (fun _ _ => rfl)) (j_var (i := 1) rfl (.inl rfl))) j_int)
  (jb_one (js_ret (j_var (i := 3) rfl (.inl rfl)))))) jb_nil)
  (jb_cons (js_stIx (i := 0) rfl (.inl rfl) (j_op op_add o_add (j_ixB (i := 0) rfl (.inl rfl) j_int (fun _ _ => rfl)) j_int) j_int)
  (jb_cons (js_if (jt_cmp op_gt o_gt (j_ixB (i := 0) rfl (.inl rfl) j_int (fun _ _ => rfl)) (j_callB call_len o_len rfl T.free_len bb_len (ja_cons (j_ixB (i := 0) rfl (.inl rfl) j_int (fun _ _ => rfl)) ja_nil)) (nomark _)) (jb_cons (js_stIx (i := 0) rfl (.inl rfl) (j_op op_mod o_mod (j_callTy call_int1 o_int rfl T.free_int bb_int (ja_cons (j_op op_add o_add (j_op op_mul o_mul (j_ixB (i := 0) rfl (.inl rfl) j_int (fun _ _ => rfl)) j_int) j_int) ja_nil)) j_int) j_int)
  (jb_one (js_ret (j_op op_mod o_mod (j_callTy call_int1 o_int rfl T.free_int bb_int (ja_cons (j_op op_fdiv o_div (j_ixB (i := 0) rfl (.inl rfl) j_int (fun _ _ => rfl)) j_int) ja_nil)) (j_var (i := 1) rfl (.inl rfl)))))) jb_nil)
  (jb_cons (js_set (i := 2) rfl SC.nd rfl (.inl rfl) (j_ix ix_seq o_ix (j_ixB (i := 0) rfl (.inl rfl) j_int (fun _ _ => rfl)) (j_op op_sub o_sub (j_ixB (i := 0) rfl (.inl rfl) j_int (fun _ _ => rfl)) j_int) (fun _ _ => rfl)))
  (jb_cons (js_stIx (i := 0) rfl (.inl rfl) (j_op op_mod o_mod (j_callTy call_int1 o_int rfl T.free_int bb_int (ja_cons (j_op op_add o_add (j_op op_add o_add (j_op op_mul o_mul (j_ixB (i := 0) rfl (.inl rfl) j_int (fun _ _ => rfl)) j_int) (j_var (i := 2) rfl (.inl rfl))) j_int) ja_nil)) j_int) j_int)
  (jb_cons (js_if (jt_cmp op_ge o_ge (j_var (i := 2) rfl (.inl rfl)) (j_op op_pow o_pow j_int j_int) (nomark _)) (jb_one (js_stIx (i := 0) rfl (.inl rfl) (j_op op_fdiv o_div (j_var (i := 2) rfl (.inl rfl)) (j_var (i := 1) rfl (.inl rfl))) j_int)) jb_nil)
  (jb_one (js_ret (j_op op_mod o_mod (j_callTy call_int1 o_int rfl T.free_int bb_int (ja_cons (j_var (i := 2) rfl (.inl rfl)) ja_nil)) (j_var (i := 1) rfl (.inl rfl)))))))))))
/-! law -/
abbrev s_law : Stmt := topS 17
theorem sc_law : FnScope ["_law_script", "_law_row", "_law_turn", "_law_power", "_law_step", "_law_a", "_law_b", "_law_c"] ["_law_script"] (defScope s_law) := ⟨rfl, rfl, rfl, by decide +kernel, rfl, by decide +kernel, by decide +kernel⟩
def l_law_0 : MS := mSet 3 (unO (mCall f_multiply (aCons (rdv 3) (aCons (rdv 5) (aNil)))))
def l_law_1 : MS := mSeq (mPar [5, 6, 7] (aCons (unO (mCallIO 1 f__law_taken (aCons (giv (.int 16)) (aNil)))) (aCons (unO (mCallIO 1 f__law_taken (aCons (giv (.int 16)) (aNil)))) (aCons (unO (mCallIO 1 f__law_taken (aCons (giv (.int 16)) (aNil)))) (aNil)))))
  (mSeq (mIf (mOr (mB (m2 gNe (unO (mCall f_add (aCons (rdv 5) (aCons (rdv 6) (aNil))))) (unO (mCall f_add (aCons (rdv 6) (aCons (rdv 5) (aNil))))))) (mOr (mB (m2 gNe (unO (mCall f_add (aCons (unO (mCall f_add (aCons (rdv 5) (aCons (rdv 6) (aNil))))) (aCons (rdv 7) (aNil))))) (unO (mCall f_add (aCons (rdv 5) (aCons (unO (mCall f_add (aCons (rdv 6) (aCons (rdv 7) (aNil))))) (aNil))))))) (mOr (mB (m2 gNe (unO (mCall f_add (aCons (rdv 5) (aCons (rdv 5) (aNil))))) (giv (.int 0)))) (mB (m2 gNe (unO (mCall f_add (aCons (rdv 5) (aCons (giv (.int 0)) (aNil))))) (rdv 5))))))
    (mRet (giv (.bl false)))
    (giv .nx))
  (mSeq (mIf (mOr (mB (m2 gNe (unO (mCall f_multiply (aCons (rdv 5) (aCons (rdv 6) (aNil))))) (unO (mCall f_multiply (aCons (rdv 6) (aCons (rdv 5) (aNil))))))) (mB (m2 gNe (unO (mCall f_multiply (aCons (unO (mCall f_multiply (aCons (rdv 5) (aCons (rdv 6) (aNil))))) (aCons (rdv 7) (aNil))))) (unO (mCall f_multiply (aCons (rdv 5) (aCons (unO (mCall f_multiply (aCons (rdv 6) (aCons (rdv 7) (aNil))))) (aNil))))))))
    (mRet (giv (.bl false)))
    (giv .nx))
  (mSeq (mIf (mOr (mB (m2 gNe (unO (mCall f_multiply (aCons (rdv 5) (aCons (unO (mCall f_add (aCons (rdv 6) (aCons (rdv 7) (aNil))))) (aNil))))) (unO (mCall f_add (aCons (unO (mCall f_multiply (aCons (rdv 5) (aCons (rdv 6) (aNil))))) (aCons (unO (mCall f_multiply (aCons (rdv 5) (aCons (rdv 7) (aNil))))) (aNil))))))) (mOr (mB (m2 gNe (unO (mCall f_multiply (aCons (rdv 5) (aCons (giv (.int 1)) (aNil))))) (rdv 5))) (mB (m2 gNe (unO (mCall f_multiply (aCons (rdv 5) (aCons (giv (.int 0)) (aNil))))) (giv (.int 0))))))
    (mRet (giv (.bl false)))
    (giv .nx))
  (mSeq (mIf (mB (m2 gNe (unO (mCall f_multiply (aCons (rdv 5) (aCons (giv (.int 2)) (aNil))))) (mIf (mB (m2 gLt (rdv 5) (giv (.int 8)))) (m2 gMul (giv (.int 2)) (rdv 5)) (unO (mCall f_add (aCons (m2 gSub (m2 gMul (giv (.int 2)) (rdv 5)) (giv (.int 16))) (aCons (giv (.int 3)) (aNil))))))))
    (mRet (giv (.bl false)))
    (giv .nx))
  (mSeq (mIf (mB (m2 gNe (rdv 6) (giv (.int 0))))
    (mSeq (mIf (mOr (mB (m2 gNe (unO (mCall f_divide (aCons (unO (mCall f_multiply (aCons (rdv 5) (aCons (rdv 6) (aNil))))) (aCons (rdv 6) (aNil))))) (rdv 5))) (mOr (mB (m2 gNe (unO (mCall f_multiply (aCons (unO (mCall f_divide (aCons (rdv 5) (aCons (rdv 6) (aNil))))) (aCons (rdv 6) (aNil))))) (rdv 5))) (mB (m2 gNe (unO (mCall f_divide (aCons (rdv 6) (aCons (rdv 6) (aNil))))) (giv (.int 1))))))
    (mRet (giv (.bl false)))
    (giv .nx))
  (mIf (mAnd (mB (m2 gNe (rdv 7) (giv (.int 0)))) (mB (m2 gNe (unO (mCall f_divide (aCons (unO (mCall f_divide (aCons (rdv 5) (aCons (rdv 6) (aNil))))) (aCons (rdv 7) (aNil))))) (unO (mCall f_divide (aCons (rdv 5) (aCons (unO (mCall f_multiply (aCons (rdv 6) (aCons (rdv 7) (aNil))))) (aNil))))))))
    (mRet (giv (.bl false)))
    (giv .nx)))
    (giv .nx))
  (mSeq (mIf (mOr (mAnd (mB (m2 gNe (rdv 5) (giv (.int 0)))) (mAnd (mB (m2 gNe (rdv 6) (giv (.int 0)))) (mB (m2 gEq (unO (mCall f_multiply (aCons (rdv 5) (aCons (rdv 6) (aNil))))) (giv (.int 0)))))) (bnd (mB (mCh gLe gLt (giv (.int 0)) (unO (mCall f_multiply (aCons (rdv 5) (aCons (rdv 6) (aNil))))) (giv (.int 16)))) fun b => giv !b))
    (mRet (giv (.bl false)))
    (giv .nx))
  (mSeq (mSet 3 (giv (.int 1)))
  (mSeq (mFor (mRg rng1 (aCons (giv (.int 15)) (aNil))) (gN 4) l_law_0)
  (mIf (mB (m2 gNe (rdv 3) (mN (n1 intD) (aCons (m2 gNe (rdv 5) (giv (.int 0))) (aNil)))))
    (mRet (giv (.bl false)))
    (giv .nx))))))))))
def b_law : MS := mSeq (mSetO 1 (mLstO (aCons (rdv 0) (aCons (giv (.int 0)) (aCons (giv (.int 0)) (aCons (giv (.int 0)) (aNil)))))))
  (mSeq (mFor (mRg rng1 (aCons (giv (.int 30)) (aNil))) (gN 2) l_law_1)
  (mRet (giv (.bl true))))
def f_law : Sem := semF 1 8 b_law
theorem bd_law (T : Tx K mg) {cdv : Value} {A : Around} {outer : List Env} {s : Shared} {H : Hp} {E : XK} (hr : Room 4 (A.deeper (envOfC "law" (defScope s_law) s.heap.objs.size (He.ga K "law") cdv))) :
    JB (cxOf (L2.CX P w) P w K mg base ["_law_script", "_law_row", "_law_turn", "_law_power", "_law_step", "_law_a", "_law_b", "_law_c"] "law" (defScope s_law) (He.ga K "law") cdv A outer s H E) (fun cls d _ H => E cls d H) false (defBody s_law) b_law :=
  have tk := takes_of (E := E) rfl rfl rfl rfl
  have SC := sc_law
  (jb_cons (js_setO (i := 1) rfl SC.nd rfl (.inl rfl) (jo_lst (ja_cons (j_var (i := 0) rfl (.inl rfl)) (ja_cons j_int (ja_cons j_int (ja_cons j_int ja_nil))))))
  (jb_cons (js_for (passes_of rfl) rfl (ji_range1 rfl T.free_range (ja_cons j_int ja_nil)) (jg_name (i := 2) rfl SC.nd rfl (.inl rfl)) (jb_cons (js_par3 (i := 5) (j := 6) (l := 7) rfl rfl rfl rfl SC.nd rfl rfl rfl (by decide) (by decide) (by decide) rfl rfl rfl (ja_cons (j_unO (jo_calIO (i := 1) (ok__law_taken T) hr (by decide) rfl tk rfl (.inl rfl) (ja_cons j_int ja_nil))) (ja_cons (j_unO (jo_calIO (i := 1) (ok__law_taken T) hr (by decide) rfl tk rfl (.inl rfl) (ja_cons j_int ja_nil))) (ja_cons (j_unO (jo_calIO (i := 1) (ok__law_taken T) hr (by decide) rfl tk rfl (.inl rfl) (ja_cons j_int ja_nil))) ja_nil))) rfl)
  (jb_cons (js_if (jt_w (jw_or (jt_cmp op_ne o_ne (j_unO (jo_cal (ok_add T) hr (by decide) rfl tk (ja_cons (j_var (i := 5) rfl (.inl rfl)) (ja_cons (j_var (i := 6) rfl (.inl rfl)) ja_nil)))) (j_unO (jo_cal (ok_add T) hr (by decide) rfl tk (ja_cons (j_var (i := 6) rfl (.inl rfl)) (ja_cons (j_var (i := 5) rfl (.inl rfl)) ja_nil)))) (nomark _)) (jw_or (jt_cmp op_ne o_ne (j_unO (jo_cal (ok_add T) hr (by decide) rfl tk (ja_cons (j_unO (jo_cal (ok_add T) hr (by decide) rfl tk (ja_cons (j_var (i := 5) rfl (.inl rfl)) (ja_cons (j_var (i := 6) rfl (.inl rfl)) ja_nil)))) (ja_cons (j_var (i := 7) rfl (.inl rfl)) ja_nil)))) (j_unO (jo_cal (ok_add T) hr (by decide) rfl tk (ja_cons (j_var (i := 5) rfl (.inl rfl)) (ja_cons (j_unO (jo_cal (ok_add T) hr (by decide) rfl tk (ja_cons (j_var (i := 6) rfl (.inl rfl)) (ja_cons (j_var (i := 7) rfl (.inl rfl)) ja_nil)))) ja_nil)))) (nomark _)) (jw_or (jt_cmp op_ne o_ne (j_unO (jo_cal (ok_add T) hr (by decide) rfl tk (ja_cons (j_var (i := 5) rfl (.inl rfl)) (ja_cons (j_var (i := 5) rfl (.inl rfl)) ja_nil)))) j_int (nomark _)) (jw_or1 (jt_cmp op_ne o_ne (j_unO (jo_cal (ok_add T) hr (by decide) rfl tk (ja_cons (j_var (i := 5) rfl (.inl rfl)) (ja_cons j_int ja_nil)))) (j_var (i := 5) rfl (.inl rfl)) (nomark _))))))) (jb_one (js_ret j_bl)) jb_nil)
  (jb_cons (js_if (jt_w (jw_or (jt_cmp op_ne o_ne (j_unO (jo_cal (ok_multiply T) hr (by decide) rfl tk (ja_cons (j_var (i := 5) rfl (.inl rfl)) (ja_cons (j_var (i := 6) rfl (.inl rfl)) ja_nil)))) (j_unO (jo_cal (ok_multiply T) hr (by decide) rfl tk (ja_cons (j_var (i := 6) rfl (.inl rfl)) (ja_cons (j_var (i := 5) rfl (.inl rfl)) ja_nil)))) (nomark _)) (jw_or1 (jt_cmp op_ne o_ne (j_unO (jo_cal (ok_multiply T) hr (by decide) rfl tk (ja_cons (j_unO (jo_cal (ok_multiply T) hr (by decide) rfl tk (ja_cons (j_var (i := 5) rfl (.inl rfl)) (ja_cons (j_var (i := 6) rfl (.inl rfl)) ja_nil)))) (ja_cons (j_var (i := 7) rfl (.inl rfl)) ja_nil)))) (j_unO (jo_cal (ok_multiply T) hr (by decide) rfl tk (ja_cons (j_var (i := 5) rfl (.inl rfl)) (ja_cons (j_unO (jo_cal (ok_multiply T) hr (by decide) rfl tk (ja_cons (j_var (i := 6) rfl (.inl rfl)) (ja_cons (j_var (i := 7) rfl (.inl rfl)) ja_nil)))) ja_nil)))) (nomark _))))) (jb_one (js_ret j_bl)) jb_nil)
  (jb_cons (js_if (jt_w (jw_or (jt_cmp op_ne o_ne (j_unO (jo_cal (ok_multiply T) hr (by decide) rfl tk (ja_cons (j_var (i := 5) rfl (.inl rfl)) (ja_cons (j_unO (jo_cal (ok_add T) hr (by decide) rfl tk (ja_cons (j_var (i := 6) rfl (.inl rfl)) (ja_cons (j_var (i := 7) rfl (.inl rfl)) ja_nil)))) ja_nil)))) (j_unO (jo_cal (ok_add T) hr (by decide) rfl tk (ja_cons (j_unO (jo_cal (ok_multiply T) hr (by decide) rfl tk (ja_cons (j_var (i := 5) rfl (.inl rfl)) (ja_cons (j_var (i := 6) rfl (.inl rfl)) ja_nil)))) (ja_cons (j_unO (jo_cal (ok_multiply T) hr (by decide) rfl tk (ja_cons (j_var (i := 5) rfl (.inl rfl)) (ja_cons (j_var (i := 7) rfl (.inl rfl)) ja_nil)))) ja_nil)))) (nomark _)) (jw_or (jt_cmp op_ne o_ne (j_unO (jo_cal (ok_multiply T) hr (by decide) rfl tk (ja_cons (j_var (i := 5) rfl (.inl rfl)) (ja_cons j_int ja_nil)))) (j_var (i := 5) rfl (.inl rfl)) (nomark _)) (jw_or1 (jt_cmp op_ne o_ne (j_unO (jo_cal (ok_multiply T) hr (by decide) rfl tk (ja_cons (j_var (i := 5) rfl (.inl rfl)) (ja_cons j_int ja_nil)))) j_int (nomark _)))))) (jb_one (js_ret j_bl)) jb_nil)
  (jb_cons (js_if (jt_cmp op_ne o_ne (j_unO (jo_cal (ok_multiply T) hr (by decide) rfl tk (ja_cons (j_var (i := 5) rfl (.inl rfl)) (ja_cons j_int ja_nil)))) (j_if (jt_cmp op_lt o_lt (j_var (i := 5) rfl (.inl rfl)) j_int (nomark _)) (j_op op_mul o_mul j_int (j_var (i := 5) rfl (.inl rfl))) (j_unO (jo_cal (ok_add T) hr (by decide) rfl tk (ja_cons (j_op op_sub o_sub (j_op op_mul o_mul j_int (j_var (i := 5) rfl (.inl rfl))) j_int) (ja_cons j_int ja_nil))))) (nomark _)) (jb_one (js_ret j_bl)) jb_nil)
  (jb_cons (js_if (jt_cmp op_ne o_ne (j_var (i := 6) rfl (.inl rfl)) j_int (nomark _)) (jb_cons (js_if (jt_w (jw_or (jt_cmp op_ne o_ne (j_unO (jo_cal (ok_divide T) hr (by decide) rfl tk (ja_cons (j_unO (jo_cal (ok_multiply T) hr (by decide) rfl tk (ja_cons (j_var (i := 5) rfl (.inl rfl)) (ja_cons (j_var (i := 6) rfl (.inl rfl)) ja_nil)))) (ja_cons (j_var (i := 6) rfl (.inl rfl)) ja_nil)))) (j_var (i := 5) rfl (.inl rfl)) (nomark _)) (jw_or (jt_cmp op_ne o_ne (j_unO (jo_cal (ok_multiply T) hr (by decide) rfl tk (ja_cons (j_unO (jo_cal (ok_divide T) hr (by decide) rfl tk (ja_cons (j_var (i := 5) rfl (.inl rfl)) (ja_cons (j_var (i := 6) rfl (.inl rfl)) ja_nil)))) (ja_cons (j_var (i := 6) rfl (.inl rfl)) ja_nil)))) (j_var (i := 5) rfl (.inl rfl)) (nomark _)) (jw_or1 (jt_cmp op_ne o_ne (j_unO (jo_cal (ok_divide T) hr (by decide) rfl tk (ja_cons (j_var (i := 6) rfl (.inl rfl)) (ja_cons (j_var (i := 6) rfl (.inl rfl)) ja_nil)))) j_int (nomark _)))))) (jb_one (js_ret j_bl)) jb_nil)
  (jb_one (js_if (jt_w (jw_and (jt_cmp op_ne o_ne (j_var (i := 7) rfl (.inl rfl)) j_int (nomark _)) (jw_and1 (jt_cmp op_ne o_ne (j_unO (jo_cal (ok_divide T) hr (by decide) rfl tk (ja_cons (j_unO (jo_cal (ok_divide T) hr (by decide) rfl tk (ja_cons (j_var (i := 5) rfl (.inl rfl)) (ja_cons (j_var (i := 6) rfl (.inl rfl)) ja_nil)))) (ja_cons (j_var (i := 7) rfl (.inl rfl)) ja_nil)))) (j_unO (jo_cal (ok_divide T) hr (by decide) rfl tk (ja_cons (j_var (i := 5) rfl (.inl rfl)) (ja_cons (j_unO (jo_cal (ok_multiply T) hr (by decide) rfl tk (ja_cons (j_var (i := 6) rfl (.inl rfl)) (ja_cons (j_var (i := 7) rfl (.inl rfl)) ja_nil)))) ja_nil)))) (nomark _))))) (jb_one (js_ret j_bl)) jb_nil))) jb_nil)
  (jb_cons (js_if (jt_w (jw_or (jt_w (jw_and (jt_cmp op_ne o_ne (j_var (i := 5) rfl (.inl rfl)) j_int (nomark _)) (jw_and (jt_cmp op_ne o_ne (j_var (i := 6) rfl (.inl rfl)) j_int (nomark _)) (jw_and1 (jt_cmp op_eq o_eq (j_unO (jo_cal (ok_multiply T) hr (by decide) rfl tk (ja_cons (j_var (i := 5) rfl (.inl rfl)) (ja_cons (j_var (i := 6) rfl (.inl rfl)) ja_nil)))) j_int (nomark _)))))) (jw_or1 (jt_not (jt_chain op_le op_lt o_le o_lt j_int (j_unO (jo_cal (ok_multiply T) hr (by decide) rfl tk (ja_cons (j_var (i := 5) rfl (.inl rfl)) (ja_cons (j_var (i := 6) rfl (.inl rfl)) ja_nil)))) j_int))))) (jb_one (js_ret j_bl)) jb_nil)
  (jb_cons (js_set (i := 3) rfl SC.nd rfl (.inl rfl) j_int)
  (jb_cons (js_for (passes_of rfl) rfl (ji_range1 rfl T.free_range (ja_cons j_int ja_nil)) (jg_name (i := 4) rfl SC.nd rfl (.inl rfl)) (jb_one (js_set (i := 3) rfl SC.nd rfl (.inl rfl) (j_unO (jo_cal (ok_multiply T) hr (by decide) rfl tk (ja_cons (j_var (i := 3) rfl (.inl rfl)) (ja_cons (j_var (i := 5) rfl (.inl rfl)) ja_nil)))))))
  (jb_one (js_if (jt_cmp op_ne o_ne (j_var (i := 3) rfl (.inl rfl)) (j_callTy call_int1 o_int rfl T.free_int bb_int (ja_cons (j_cmp op_ne o_ne (j_var (i := 5) rfl (.inl rfl)) j_int (nomark _)) ja_nil)) (nomark _)) (jb_one (js_ret j_bl)) jb_nil))))))))))))
  (jb_one (js_ret j_bl))))
end
def fn : List He.DefD := [⟨("is_integer", none), "is_integer", "is_integer", defArgs s_is_integer, defBody s_is_integer, defScope s_is_integer, [], []⟩, ⟨("is_symbol", none), "is_symbol", "is_symbol", defArgs s_is_symbol, defBody s_is_symbol, defScope s_is_symbol, [], []⟩, ⟨("check_symbols", none), "check_symbols", "check_symbols", defArgs s_check_symbols, defBody s_check_symbols, defScope s_check_symbols, [], []⟩, ⟨("product", none), "product", "product", defArgs s_product, defBody s_product, defScope s_product, [], []⟩, ⟨("inverse", none), "inverse", "inverse", defArgs s_inverse, defBody s_inverse, defScope s_inverse, [], []⟩, ⟨("add", none), "add", "add", defArgs s_add, defBody s_add, defScope s_add, [], []⟩, ⟨("multiply", none), "multiply", "multiply", defArgs s_multiply, defBody s_multiply, defScope s_multiply, [], []⟩, ⟨("divide", none), "divide", "divide", defArgs s_divide, defBody s_divide, defScope s_divide, [], []⟩, ⟨("_law_taken", none), "_law_taken", "_law_taken", defArgs s__law_taken, defBody s__law_taken, defScope s__law_taken, [], []⟩, ⟨("law", none), "law", "law", defArgs s_law, defBody s_law, defScope s_law, [], []⟩]
def fa : List He.Fa := [.glo "is_integer", .glo "is_symbol", .glo "check_symbols", .glo "product", .glo "inverse", .glo "add", .glo "multiply", .glo "divide", .glo "_law_taken", .glo "law", .free "bool", .free "int", .free "isinstance", .free "len", .free "range", .int "FIELD_SIZE" 16, .int "MAX_SYMBOL" 15, .int "REDUCTION" 3, .glo "InvalidSymbol", .exc "InvalidSymbol"]
theorem tx {K : Frag} {h : Heap} {mg : Str → Option Value} (X : K.In h) (G : h.Ns mainGlobals mg) (c : He.SaysD fa fn K) : Tx K mg where
  free_bool := He.free_ok X G (c.fact 10 (f := .free "bool") rfl)
  free_int := He.free_ok X G (c.fact 11 (f := .free "int") rfl)
  free_isinstance := He.free_ok X G (c.fact 12 (f := .free "isinstance") rfl)
  free_len := He.free_ok X G (c.fact 13 (f := .free "len") rfl)
  free_range := He.free_ok X G (c.fact 14 (f := .free "range") rfl)
  int_FIELD_SIZE := He.int_ok X G (c.fact 15 (f := .int "FIELD_SIZE" 16) rfl)
  int_MAX_SYMBOL := He.int_ok X G (c.fact 16 (f := .int "MAX_SYMBOL" 15) rfl)
  int_REDUCTION := He.int_ok X G (c.fact 17 (f := .int "REDUCTION" 3) rfl)
  exc_InvalidSymbol := by
    obtain ⟨h1, h2, h3, h4⟩ := He.exc_ok (c.fact 19 (f := .exc "InvalidSymbol") rfl)
    exact ⟨_, He.glo_ok X G (c.fact 18 (f := .glo "InvalidSymbol") rfl), h1, h2, h3, h4⟩
  g_is_integer := He.glo_ok X G (c.fact 0 (f := .glo "is_integer") rfl)
  d_is_integer := c.def_ 0 rfl
  g_is_symbol := He.glo_ok X G (c.fact 1 (f := .glo "is_symbol") rfl)
  d_is_symbol := c.def_ 1 rfl
  g_check_symbols := He.glo_ok X G (c.fact 2 (f := .glo "check_symbols") rfl)
  d_check_symbols := c.def_ 2 rfl
  g_product := He.glo_ok X G (c.fact 3 (f := .glo "product") rfl)
  d_product := c.def_ 3 rfl
  g_inverse := He.glo_ok X G (c.fact 4 (f := .glo "inverse") rfl)
  d_inverse := c.def_ 4 rfl
  g_add := He.glo_ok X G (c.fact 5 (f := .glo "add") rfl)
  d_add := c.def_ 5 rfl
  g_multiply := He.glo_ok X G (c.fact 6 (f := .glo "multiply") rfl)
  d_multiply := c.def_ 6 rfl
  g_divide := He.glo_ok X G (c.fact 7 (f := .glo "divide") rfl)
  d_divide := c.def_ 7 rfl
  g__law_taken := He.glo_ok X G (c.fact 8 (f := .glo "_law_taken") rfl)
  d__law_taken := c.def_ 8 rfl
  g_law := He.glo_ok X G (c.fact 9 (f := .glo "law") rfl)
  d_law := c.def_ 9 rfl
def nm0 : List PySem.Str := ["SquaremarkError", "InvalidSymbol", "MAX_SYMBOL", "FIELD_SIZE", "REDUCTION", "is_integer", "is_symbol", "check_symbols", "product", "inverse", "add", "multiply", "divide", "_law_taken"]
def loose : List PySem.Str := nm0
abbrev R : PySem.W.OpenRow := PySem.W.OpenLaw.row PySem.Challenge.rw_squaremark_k18_whole_sums_and_products
abbrev hk : PySem.W.Hook := He.hookD 4 fa fn
def ob (s : PySem.W.SharedT) : He.AlD := He.obsDG 4 fa fn (HandSHeadRun.getT s)
theorem ob_eq (s : PySem.W.SharedT) : ob s = hk.obs s.abs := He.obsDG_eq (HandSHeadRun.getT_eq s)
theorem run (w : World) : HandSHeadRun.RunEq R (PySem.W.view R.prog [17]) hk ob 20000 loose w := by
  intro os
  kernel_rfl
/-- what the law comes to -/
def LawTrue : Prop := ∀ ns : List Int, ns.length ≤ 63 → f_law [.lst (ns.map .int)] = some (.ok (.bl true, .z))
theorem quiet {P : Program} {w : World} {K : Frag} {mg : Str → Option Value} {base : Heap} {k : Nat} {f : Addr} {fd : FuncData} {ps : List Str} {sp : Sp} (F : FnOk P w K mg base (L2.CX P w) k f fd ps sp) : FnOk P w K mg base CX0 k f fd ps (fun vs H Q _ => sp vs H Q fun _ _ _ => False) :=
  ⟨fun vs H Q E h => F.len _ _ _ _ h, fun A outer s H args us vs Q E hr e0 hb r h => codeAny_mono (F.run A outer s H args us vs Q (fun _ _ _ => False) hr e0 hb r h) fun r s' q => by
    cases r with
    | ok fl => cases fl <;> exact q
    | error e =>
      obtain ⟨_, _, _, _, _, _, _, _, _, _, _, _, z⟩ := q
      exact z.elim⟩
theorem reps_ints {K : Frag} {F : Hp} : ∀ ns : List Int, Reps K F (ns.map D.int) (ns.map V.int)
  | [] => rfl
  | n :: ns => ⟨.int n, _, rfl, rfl, reps_ints ns⟩
end G
open PySem PySem.W PySem.Calls PyProof.Rows
theorem G.holds_of (LT : G.LawTrue) : PySem.Challenge.rw_squaremark_k18_whole_sums_and_products.Holds := by
  w_on; o_law
  refine HandSHeadRun.head_any (r := OpenLaw.row PySem.Challenge.rw_squaremark_k18_whole_sums_and_products) (q := view (OpenLaw.row PySem.Challenge.rw_squaremark_k18_whole_sums_and_products).prog [17]) (H := G.hk) (ob := G.ob) (M := 20000) (loose := G.loose) (d := HandSHeadRun.topDef (OpenLaw.row PySem.Challenge.rw_squaremark_k18_whole_sums_and_products).prog 17) (kwd := []) G.ob_eq
    (by kernel_rfl) (fun s => by kernel_rfl) G.run (by kernel_rfl) (by kernel_rfl) (by kernel_rfl) (by rfl) (by first | assumption | decide +kernel) (by decide +kernel) ⟨rfl, rfl, rfl, rfl, rfl, by decide +kernel⟩ ?hw ?hc
  case hw => w_witness2
  case hc =>
    refine L2.walk_ofE (l := PySem.Challenge.rw_squaremark_k18_whole_sums_and_products) (n := 63) (k := 5) (x := "_law_script") (CX := L2.CX0) rfl (by decide) (by kernel_rfl) ⟨rfl, by decide, by decide⟩ ?F (fun _ _ _ _ z => z)
    intro w mg fa h Y Gm hmg0
    obtain ⟨K, KX, c⟩ := Y
    have hmg : mg ("law" : PySem.Str) = some (.ref fa) := by
      have e : (HandSHeadRun.topDef (OpenLaw.row PySem.Challenge.rw_squaremark_k18_whole_sums_and_products).prog 17).name = ("law" : PySem.Str) := by kernel_rfl
      rw [← e]
      exact hmg0
    have T := G.tx KX Gm c
    obtain ⟨fd, F⟩ := T.d_law
    have e := hmg.symm.trans T.g_law
    cases e
    have b := L2.FunD.bindsA (ps := ["_law_script"]) F fun _ _ _ _ _ _ us hl => match us, hl with | [_], _ => rfl
    refine ⟨K, fd, fun vs H Q _ => Mn.spF K mg 1 G.f_law vs H Q fun _ _ _ => False, KX, fun s v => b s [v] rfl, fun H a ns hl hO hS => ?_, fun base KB GB => ?_⟩
    · refine ⟨[.lst (ns.map .int)], [], (fun _ z => nomatch z), ⟨.ref a, [], rfl, ⟨a, _, rfl, by rw [Mn.mask_nil]; exact hS, G.reps_ints ns⟩, rfl⟩, rfl, ?_⟩
      rw [LT ns hl]
      intro S' H' v g r
      obtain ⟨v', S1, S2, e1, e2, h1, h2⟩ := r.sl
      cases e1
      exact h1.2
    · exact G.quiet (Mn.fnF F G.sc_law fun cdv A outer s H E hr => G.bd_law T hr)
end
section
namespace G
open Mn
theorem sm48271 (i : Int) : (sm i || sm 48271) = true := by
  rw [show sm 48271 = true by decide, Bool.or_true]
theorem nat10 : decide ((10 : Int).natAbs < 18446744073709551616) = true := by decide
/-- the law's row: the script, its place, the mixed number, the rest of a great cell -/
def row (xs : List Int) (p s c : Int) : D × Kd := (.lst [.lst (xs.map .int), .int p, .int s, .int c], .s .z)
theorem taken1 {xs : List Int} {p s c many : Int} (hc : 0 < c) (hm : 0 < many) (hm2 : many < 1073741824) :
  f__law_taken (row xs p s c) [.int many] = some (.ok (.int (c % many), .z), row xs p s (c / many)) := by
  simp only [f__law_taken, semIO, b__law_taken, mu0, row, ↓bnd_def, ↓giv_a, ↓opt_a, ↓mSeq_a, ↓mIf_a, ↓mB_a, ↓mT_a, ↓m1_a, ↓mN_a, ↓m2_a, ↓mCh_a, ↓mAnd_a, ↓mOr_a, ↓vAnd_a, ↓vOr_a, ↓vNot_a, ↓vB_t, ↓vB_f, ↓vB0_t, ↓vB0_f, ↓cond_t, ↓cond_f, ↓unO_a, ↓toO_a, ↓mCall_a, ↓has_a, ↓mCallIO_a, ↓aNil_a, ↓aCons_a, ↓rdv_a, ↓mIxB_a, ↓mLenB_a, ↓mStIx_a, ↓put_a, ↓mSet_a, ↓mSetO_a, ↓mAug_a, ↓mRet_a, ↓mRetO_a, ↓mDrop_a, ↓mRaise_a, ↓mLstO_a, ↓mPar_a, ↓mFor_a, ↓mRg_a, ↓mIt_a, ↓mAsg_a, Rs_ok, Rs_exn, atI_0, ixN_0, atI_1, ixN_1, atI_2, ixN_2, atI_3, ixN_3, atI_4, ixN_4, atI_5, ixN_5, atI_6, ixN_6, atI_7, ixN_7, atI_8, ixN_8, atI_9, ixN_9, atI_10, ixN_10, atI_11, ixN_11, atI_12, ixN_12, atI_13, ixN_13, atI_14, ixN_14, atI_15, ixN_15, atI_16, ixN_16, sq_nx, sq_ct, sq_bk, sq_rt, sq_ex, lp_nx, lp_ct, lp_bk, lp_rt, lp_ex, tn_s, rd_z, rd_s, hs_s, cl_s, ci_s, cj_s, bw_s, brw_a, br_z, br_l, ownL_a, ow_l, ag_s, op_s, asB_b, asI_i, stL_a, gN_a, gAdd_a, gSub_a, gXor_a, gAnd_a, gLt_a, gLe_a, gGt_a, gGe_a, gMul_a, gDiv_a, gMod_a, gPow_a, gNeg_a, gNot_a, gEq_a, gNe_a, eqS_i, eqS_b, eqS_s, eqS_n, eqS_ni, eqS_in, lenD_l, lenD_t, lenD_s, intD_i, intD_b, n1_a, lim_a, ixD_l, ixD_t, truth_n, truth_b, truth_i, truth_t, truth_l, isTy_ii, isTy_ib, isTy_in, isTy_is, isTy_it, isTy_il, isTy_bi, isTy_bb, isTy_ss, isTy_si, isTy_sb, isTy_sn, isTy_st, isTy_sl, isTy_tt, isTy_ti, isTy_tb, isTy_tn, isTy_ts, isTy_tl, isTy_ll, isTy_li, isTy_lb, isTy_ln, isTy_ls, isTy_lt, endsOf_r, endsOf_n, endsOf_e, endsIO_r, endsIO_n, endsIO_e, rng1_a, rng2_a, cond_true, cond_false, Bool.and_true, Bool.true_and, Bool.and_false, Bool.false_and, Bool.or_true, Bool.true_or, Bool.or_false, Bool.false_or, Bool.not_true, Bool.not_false, decide_true, decide_false, List.getElem?_cons_zero, List.getElem?_cons_succ, List.set_cons_zero, List.set_cons_succ, List.length_cons, List.length_nil, List.length_set, List.map_cons, List.map_nil, List.replicate, List.append_nil, List.nil_append, List.cons_append, Option.bind_some, Option.bind_none, Option.map_some, Option.map_none, Nat.reduceAdd, Nat.reduceSub, Nat.reduceLT, Nat.reduceLeDiff, Nat.reduceEqDiff, ↓reduceIte, hc, hm, hm2]
theorem taken2 {xs : List Int} {p s c many : Int} (hc : ¬ 0 < c) (hp : (xs.length : Int) < p + 1) (hm : 0 < many) :
  f__law_taken (row xs p s c) [.int many] = some (.ok (.int ((s * 48271 + 11) % 2147483647 / 7 % many), .z), row xs (p + 1) ((s * 48271 + 11) % 2147483647) c) := by
  simp only [f__law_taken, semIO, b__law_taken, mu0, row, ↓bnd_def, ↓giv_a, ↓opt_a, ↓mSeq_a, ↓mIf_a, ↓mB_a, ↓mT_a, ↓m1_a, ↓mN_a, ↓m2_a, ↓mCh_a, ↓mAnd_a, ↓mOr_a, ↓vAnd_a, ↓vOr_a, ↓vNot_a, ↓vB_t, ↓vB_f, ↓vB0_t, ↓vB0_f, ↓cond_t, ↓cond_f, ↓unO_a, ↓toO_a, ↓mCall_a, ↓has_a, ↓mCallIO_a, ↓aNil_a, ↓aCons_a, ↓rdv_a, ↓mIxB_a, ↓mLenB_a, ↓mStIx_a, ↓put_a, ↓mSet_a, ↓mSetO_a, ↓mAug_a, ↓mRet_a, ↓mRetO_a, ↓mDrop_a, ↓mRaise_a, ↓mLstO_a, ↓mPar_a, ↓mFor_a, ↓mRg_a, ↓mIt_a, ↓mAsg_a, Rs_ok, Rs_exn, atI_0, ixN_0, atI_1, ixN_1, atI_2, ixN_2, atI_3, ixN_3, atI_4, ixN_4, atI_5, ixN_5, atI_6, ixN_6, atI_7, ixN_7, atI_8, ixN_8, atI_9, ixN_9, atI_10, ixN_10, atI_11, ixN_11, atI_12, ixN_12, atI_13, ixN_13, atI_14, ixN_14, atI_15, ixN_15, atI_16, ixN_16, sq_nx, sq_ct, sq_bk, sq_rt, sq_ex, lp_nx, lp_ct, lp_bk, lp_rt, lp_ex, tn_s, rd_z, rd_s, hs_s, cl_s, ci_s, cj_s, bw_s, brw_a, br_z, br_l, ownL_a, ow_l, ag_s, op_s, asB_b, asI_i, stL_a, gN_a, gAdd_a, gSub_a, gXor_a, gAnd_a, gLt_a, gLe_a, gGt_a, gGe_a, gMul_a, gDiv_a, gMod_a, gPow_a, gNeg_a, gNot_a, gEq_a, gNe_a, eqS_i, eqS_b, eqS_s, eqS_n, eqS_ni, eqS_in, lenD_l, lenD_t, lenD_s, intD_i, intD_b, n1_a, lim_a, ixD_l, ixD_t, truth_n, truth_b, truth_i, truth_t, truth_l, isTy_ii, isTy_ib, isTy_in, isTy_is, isTy_it, isTy_il, isTy_bi, isTy_bb, isTy_ss, isTy_si, isTy_sb, isTy_sn, isTy_st, isTy_sl, isTy_tt, isTy_ti, isTy_tb, isTy_tn, isTy_ts, isTy_tl, isTy_ll, isTy_li, isTy_lb, isTy_ln, isTy_ls, isTy_lt, endsOf_r, endsOf_n, endsOf_e, endsIO_r, endsIO_n, endsIO_e, rng1_a, rng2_a, cond_true, cond_false, Bool.and_true, Bool.true_and, Bool.and_false, Bool.false_and, Bool.or_true, Bool.true_or, Bool.or_false, Bool.false_or, Bool.not_true, Bool.not_false, decide_true, decide_false, List.getElem?_cons_zero, List.getElem?_cons_succ, List.set_cons_zero, List.set_cons_succ, List.length_cons, List.length_nil, List.length_set, List.map_cons, List.map_nil, List.replicate, List.append_nil, List.nil_append, List.cons_append, Option.bind_some, Option.bind_none, Option.map_some, Option.map_none, Nat.reduceAdd, Nat.reduceSub, Nat.reduceLT, Nat.reduceLeDiff, Nat.reduceEqDiff, ↓reduceIte, hc, hm, hp, List.length_map, sm48271, Int.reduceLT]
theorem taken3 {xs : List Int} {p s c many x : Int} (hc : ¬ 0 < c) (hp : ¬ (xs.length : Int) < p + 1) (h0 : 0 ≤ p) (hx : xs[p.toNat]? = some x) (hm : 0 < many) (hm2 : many < 1073741824) (hb : 1000000000000000000 ≤ x) :
  f__law_taken (row xs p s c) [.int many] = some (.ok (.int (x % many), .z), row xs (p + 1) ((s * 48271 + x + 11) % 2147483647) (x / many)) := by
  have e1 : p + 1 - 1 = p := by omega
  have e2 : L2.atI (xs.map D.int) p = some (.int x) := by
    rw [atI_at h0 (by rw [List.length_map]; omega), List.getElem?_map, hx]
    rfl
  simp only [f__law_taken, semIO, b__law_taken, mu0, row, ↓bnd_def, ↓giv_a, ↓opt_a, ↓mSeq_a, ↓mIf_a, ↓mB_a, ↓mT_a, ↓m1_a, ↓mN_a, ↓m2_a, ↓mCh_a, ↓mAnd_a, ↓mOr_a, ↓vAnd_a, ↓vOr_a, ↓vNot_a, ↓vB_t, ↓vB_f, ↓vB0_t, ↓vB0_f, ↓cond_t, ↓cond_f, ↓unO_a, ↓toO_a, ↓mCall_a, ↓has_a, ↓mCallIO_a, ↓aNil_a, ↓aCons_a, ↓rdv_a, ↓mIxB_a, ↓mLenB_a, ↓mStIx_a, ↓put_a, ↓mSet_a, ↓mSetO_a, ↓mAug_a, ↓mRet_a, ↓mRetO_a, ↓mDrop_a, ↓mRaise_a, ↓mLstO_a, ↓mPar_a, ↓mFor_a, ↓mRg_a, ↓mIt_a, ↓mAsg_a, Rs_ok, Rs_exn, atI_0, ixN_0, atI_1, ixN_1, atI_2, ixN_2, atI_3, ixN_3, atI_4, ixN_4, atI_5, ixN_5, atI_6, ixN_6, atI_7, ixN_7, atI_8, ixN_8, atI_9, ixN_9, atI_10, ixN_10, atI_11, ixN_11, atI_12, ixN_12, atI_13, ixN_13, atI_14, ixN_14, atI_15, ixN_15, atI_16, ixN_16, sq_nx, sq_ct, sq_bk, sq_rt, sq_ex, lp_nx, lp_ct, lp_bk, lp_rt, lp_ex, tn_s, rd_z, rd_s, hs_s, cl_s, ci_s, cj_s, bw_s, brw_a, br_z, br_l, ownL_a, ow_l, ag_s, op_s, asB_b, asI_i, stL_a, gN_a, gAdd_a, gSub_a, gXor_a, gAnd_a, gLt_a, gLe_a, gGt_a, gGe_a, gMul_a, gDiv_a, gMod_a, gPow_a, gNeg_a, gNot_a, gEq_a, gNe_a, eqS_i, eqS_b, eqS_s, eqS_n, eqS_ni, eqS_in, lenD_l, lenD_t, lenD_s, intD_i, intD_b, n1_a, lim_a, ixD_l, ixD_t, truth_n, truth_b, truth_i, truth_t, truth_l, isTy_ii, isTy_ib, isTy_in, isTy_is, isTy_it, isTy_il, isTy_bi, isTy_bb, isTy_ss, isTy_si, isTy_sb, isTy_sn, isTy_st, isTy_sl, isTy_tt, isTy_ti, isTy_tb, isTy_tn, isTy_ts, isTy_tl, isTy_ll, isTy_li, isTy_lb, isTy_ln, isTy_ls, isTy_lt, endsOf_r, endsOf_n, endsOf_e, endsIO_r, endsIO_n, endsIO_e, rng1_a, rng2_a, cond_true, cond_false, Bool.and_true, Bool.true_and, Bool.and_false, Bool.false_and, Bool.or_true, Bool.true_or, Bool.or_false, Bool.false_or, Bool.not_true, Bool.not_false, decide_true, decide_false, List.getElem?_cons_zero, List.getElem?_cons_succ, List.set_cons_zero, List.set_cons_succ, List.length_cons, List.length_nil, List.length_set, List.map_cons, List.map_nil, List.replicate, List.append_nil, List.nil_append, List.cons_append, Option.bind_some, Option.bind_none, Option.map_some, Option.map_none, Nat.reduceAdd, Nat.reduceSub, Nat.reduceLT, Nat.reduceLeDiff, Nat.reduceEqDiff, ↓reduceIte, hc, hm, hm2, hp, List.length_map, sm48271, Int.reduceLT, Int.reduceLE, e1, e2, hb, nat10, Int.reduceToNat, Int.reducePow]
theorem taken4 {xs : List Int} {p s c many x : Int} (hc : ¬ 0 < c) (hp : ¬ (xs.length : Int) < p + 1) (h0 : 0 ≤ p) (hx : xs[p.toNat]? = some x) (hm : 0 < many) (hm2 : many < 1073741824) (hb : ¬ 1000000000000000000 ≤ x) :
  f__law_taken (row xs p s c) [.int many] = some (.ok (.int (x % many), .z), row xs (p + 1) ((s * 48271 + x + 11) % 2147483647) c) := by
  have e1 : p + 1 - 1 = p := by omega
  have e2 : L2.atI (xs.map D.int) p = some (.int x) := by
    rw [atI_at h0 (by rw [List.length_map]; omega), List.getElem?_map, hx]
    rfl
  simp only [f__law_taken, semIO, b__law_taken, mu0, row, ↓bnd_def, ↓giv_a, ↓opt_a, ↓mSeq_a, ↓mIf_a, ↓mB_a, ↓mT_a, ↓m1_a, ↓mN_a, ↓m2_a, ↓mCh_a, ↓mAnd_a, ↓mOr_a, ↓vAnd_a, ↓vOr_a, ↓vNot_a, ↓vB_t, ↓vB_f, ↓vB0_t, ↓vB0_f, ↓cond_t, ↓cond_f, ↓unO_a, ↓toO_a, ↓mCall_a, ↓has_a, ↓mCallIO_a, ↓aNil_a, ↓aCons_a, ↓rdv_a, ↓mIxB_a, ↓mLenB_a, ↓mStIx_a, ↓put_a, ↓mSet_a, ↓mSetO_a, ↓mAug_a, ↓mRet_a, ↓mRetO_a, ↓mDrop_a, ↓mRaise_a, ↓mLstO_a, ↓mPar_a, ↓mFor_a, ↓mRg_a, ↓mIt_a, ↓mAsg_a, Rs_ok, Rs_exn, atI_0, ixN_0, atI_1, ixN_1, atI_2, ixN_2, atI_3, ixN_3, atI_4, ixN_4, atI_5, ixN_5, atI_6, ixN_6, atI_7, ixN_7, atI_8, ixN_8, atI_9, ixN_9, atI_10, ixN_10, atI_11, ixN_11, atI_12, ixN_12, atI_13, ixN_13, atI_14, ixN_14, atI_15, ixN_15, atI_16, ixN_16, sq_nx, sq_ct, sq_bk, sq_rt, sq_ex, lp_nx, lp_ct, lp_bk, lp_rt, lp_ex, tn_s, rd_z, rd_s, hs_s, cl_s, ci_s, cj_s, bw_s, brw_a, br_z, br_l, ownL_a, ow_l, ag_s, op_s, asB_b, asI_i, stL_a, gN_a, gAdd_a, gSub_a, gXor_a, gAnd_a, gLt_a, gLe_a, gGt_a, gGe_a, gMul_a, gDiv_a, gMod_a, gPow_a, gNeg_a, gNot_a, gEq_a, gNe_a, eqS_i, eqS_b, eqS_s, eqS_n, eqS_ni, eqS_in, lenD_l, lenD_t, lenD_s, intD_i, intD_b, n1_a, lim_a, ixD_l, ixD_t, truth_n, truth_b, truth_i, truth_t, truth_l, isTy_ii, isTy_ib, isTy_in, isTy_is, isTy_it, isTy_il, isTy_bi, isTy_bb, isTy_ss, isTy_si, isTy_sb, isTy_sn, isTy_st, isTy_sl, isTy_tt, isTy_ti, isTy_tb, isTy_tn, isTy_ts, isTy_tl, isTy_ll, isTy_li, isTy_lb, isTy_ln, isTy_ls, isTy_lt, endsOf_r, endsOf_n, endsOf_e, endsIO_r, endsIO_n, endsIO_e, rng1_a, rng2_a, cond_true, cond_false, Bool.and_true, Bool.true_and, Bool.and_false, Bool.false_and, Bool.or_true, Bool.true_or, Bool.or_false, Bool.false_or, Bool.not_true, Bool.not_false, decide_true, decide_false, List.getElem?_cons_zero, List.getElem?_cons_succ, List.set_cons_zero, List.set_cons_succ, List.length_cons, List.length_nil, List.length_set, List.map_cons, List.map_nil, List.replicate, List.append_nil, List.nil_append, List.cons_append, Option.bind_some, Option.bind_none, Option.map_some, Option.map_none, Nat.reduceAdd, Nat.reduceSub, Nat.reduceLT, Nat.reduceLeDiff, Nat.reduceEqDiff, ↓reduceIte, hc, hm, hm2, hp, List.length_map, sm48271, Int.reduceLT, Int.reduceLE, e1, e2, hb, nat10, Int.reduceToNat, Int.reducePow]
theorem taken (xs : List Int) (p s c : Int) {many : Int} (h0 : 0 ≤ p) (hm : 0 < many) (hm2 : many < 1073741824) : ∃ r p' s' c', 0 ≤ r ∧ r < many ∧ 0 ≤ p' ∧ f__law_taken (row xs p s c) [.int many] = some (.ok (.int r, .z), row xs p' s' c') := by
  have fin : ∀ y : Int, 0 ≤ y % many ∧ y % many < many := fun y => ⟨Int.emod_nonneg _ (by omega), Int.emod_lt_of_pos _ hm⟩
  by_cases hc : 0 < c
  · exact ⟨_, _, _, _, (fin _).1, (fin _).2, h0, taken1 hc hm hm2⟩
  · by_cases hp : (xs.length : Int) < p + 1
    · exact ⟨_, _, _, _, (fin _).1, (fin _).2, by omega, taken2 hc hp hm⟩
    · have hl : p.toNat < xs.length := by omega
      by_cases hb : 1000000000000000000 ≤ xs[p.toNat]
      · exact ⟨_, _, _, _, (fin _).1, (fin _).2, by omega, taken3 hc hp h0 (List.getElem?_eq_getElem hl) hm hm2 hb⟩
      · exact ⟨_, _, _, _, (fin _).1, (fin _).2, by omega, taken4 hc hp h0 (List.getElem?_eq_getElem hl) hm hm2 hb⟩
/-! ### the field -/
def gx (a : Nat) : Nat := if 8 ≤ a then (2 * a - 16) ^^^ 3 else 2 * a
def gm (a b : Nat) : Nat := (if b % 2 = 1 then a else 0) ^^^ (if b / 2 % 2 = 1 then gx a else 0) ^^^ (if b / 4 % 2 = 1 then gx (gx a) else 0) ^^^ (if b / 8 % 2 = 1 then gx (gx (gx a)) else 0)
def gi (a : Nat) : Nat := [0, 1, 9, 14, 13, 11, 7, 6, 15, 2, 12, 5, 10, 4, 3, 8].getD a 0
theorem add_all : ∀ a b : _root_.Fin 16, f_add [.int (a.val : Int), .int (b.val : Int)] = some (.ok (.int ((a.val ^^^ b.val : Nat) : Int), .z)) := by decide +kernel
theorem mul_all : ∀ a b : _root_.Fin 16, f_multiply [.int (a.val : Int), .int (b.val : Int)] = some (.ok (.int ((gm a.val b.val : Nat) : Int), .z)) := by decide +kernel
theorem div_all : ∀ a b : _root_.Fin 16, b.val ≠ 0 → f_divide [.int (a.val : Int), .int (b.val : Int)] = some (.ok (.int ((gm a.val (gi b.val) : Nat) : Int), .z)) := by decide +kernel
theorem mul1_all : ∀ a : _root_.Fin 16, f_multiply [.int (a.val : Int), .int 1] = some (.ok (.int (a.val : Int), .z)) := by decide +kernel
theorem mul0_all : ∀ a : _root_.Fin 16, f_multiply [.int (a.val : Int), .int 0] = some (.ok (.int 0, .z)) := by decide +kernel
theorem mul2_all : ∀ a : _root_.Fin 16, f_multiply [.int (a.val : Int), .int 2] = some (.ok (.int ((gx a.val : Nat) : Int), .z)) := by decide +kernel
theorem add0_all : ∀ a : _root_.Fin 16, f_add [.int (a.val : Int), .int 0] = some (.ok (.int (a.val : Int), .z)) := by decide +kernel
theorem add3_all : ∀ a : _root_.Fin 16, 8 ≤ a.val → f_add [.int (2 * (a.val : Int) - 16), .int 3] = some (.ok (.int ((gx a.val : Nat) : Int), .z)) := by decide +kernel
theorem gm_lt_all : ∀ a b : _root_.Fin 16, gm a.val b.val < 16 := by decide +kernel
theorem gx_lt_all : ∀ a : _root_.Fin 16, gx a.val < 16 := by decide +kernel
theorem gi_lt_all : ∀ a : _root_.Fin 16, gi a.val < 16 := by decide +kernel
theorem gm_comm_all : ∀ a b : _root_.Fin 16, gm a.val b.val = gm b.val a.val := by decide +kernel
theorem gm_assoc_all : ∀ a b c : _root_.Fin 16, gm (gm a.val b.val) c.val = gm a.val (gm b.val c.val) := by decide +kernel
theorem gm_dist_all : ∀ a b c : _root_.Fin 16, gm a.val (b.val ^^^ c.val) = gm a.val b.val ^^^ gm a.val c.val := by decide +kernel
theorem gm_inv_all : ∀ a b : _root_.Fin 16, b.val ≠ 0 → gm (gm a.val b.val) (gi b.val) = a.val ∧ gm (gm a.val (gi b.val)) b.val = a.val ∧ gm b.val (gi b.val) = 1 := by decide +kernel
theorem gi_mul_all : ∀ b c : _root_.Fin 16, b.val ≠ 0 → c.val ≠ 0 → gm b.val c.val ≠ 0 ∧ gm (gi b.val) (gi c.val) = gi (gm b.val c.val) := by decide +kernel
theorem gx_small_all : ∀ a : _root_.Fin 16, a.val < 8 → gx a.val = 2 * a.val := by decide +kernel
def gpow (a : Nat) : Nat → Nat
  | 0 => 1
  | n + 1 => gm (gpow a n) a
theorem gpow15_all : ∀ a : _root_.Fin 16, gpow a.val 15 = if a.val = 0 then 0 else 1 := by decide +kernel
section
variable {a b c : Nat} (ha : a < 16) (hb : b < 16) (hc : c < 16)
include ha
theorem gx_lt : gx a < 16 := gx_lt_all ⟨a, ha⟩
theorem gi_lt : gi a < 16 := gi_lt_all ⟨a, ha⟩
theorem mul1_eq : f_multiply [.int (a : Int), .int 1] = some (.ok (.int (a : Int), .z)) := mul1_all ⟨a, ha⟩
theorem mul0_eq : f_multiply [.int (a : Int), .int 0] = some (.ok (.int 0, .z)) := mul0_all ⟨a, ha⟩
theorem mul2_eq : f_multiply [.int (a : Int), .int 2] = some (.ok (.int ((gx a : Nat) : Int), .z)) := mul2_all ⟨a, ha⟩
theorem add0_eq : f_add [.int (a : Int), .int 0] = some (.ok (.int (a : Int), .z)) := add0_all ⟨a, ha⟩
theorem add3_eq (h : 8 ≤ a) : f_add [.int (2 * (a : Int) - 16), .int 3] = some (.ok (.int ((gx a : Nat) : Int), .z)) := add3_all ⟨a, ha⟩ h
theorem gx_small (h : a < 8) : gx a = 2 * a := gx_small_all ⟨a, ha⟩ h
include hb
theorem gm_lt : gm a b < 16 := gm_lt_all ⟨a, ha⟩ ⟨b, hb⟩
theorem xor_lt : a ^^^ b < 16 := Nat.xor_lt_two_pow (n := 4) ha hb
theorem add_eq : f_add [.int (a : Int), .int (b : Int)] = some (.ok (.int ((a ^^^ b : Nat) : Int), .z)) := add_all ⟨a, ha⟩ ⟨b, hb⟩
theorem mul_eq : f_multiply [.int (a : Int), .int (b : Int)] = some (.ok (.int ((gm a b : Nat) : Int), .z)) := mul_all ⟨a, ha⟩ ⟨b, hb⟩
theorem div_eq (h : b ≠ 0) : f_divide [.int (a : Int), .int (b : Int)] = some (.ok (.int ((gm a (gi b) : Nat) : Int), .z)) := div_all ⟨a, ha⟩ ⟨b, hb⟩ h
theorem gm_comm : gm a b = gm b a := gm_comm_all ⟨a, ha⟩ ⟨b, hb⟩
theorem gm_inv (h : b ≠ 0) : gm (gm a b) (gi b) = a ∧ gm (gm a (gi b)) b = a ∧ gm b (gi b) = 1 := gm_inv_all ⟨a, ha⟩ ⟨b, hb⟩ h
theorem gi_mul (h : a ≠ 0) (h2 : b ≠ 0) : gm a b ≠ 0 ∧ gm (gi a) (gi b) = gi (gm a b) := gi_mul_all ⟨a, ha⟩ ⟨b, hb⟩ h h2
include hc
theorem gm_assoc : gm (gm a b) c = gm a (gm b c) := gm_assoc_all ⟨a, ha⟩ ⟨b, hb⟩ ⟨c, hc⟩
theorem gm_dist : gm a (b ^^^ c) = gm a b ^^^ gm a c := gm_dist_all ⟨a, ha⟩ ⟨b, hb⟩ ⟨c, hc⟩
end
theorem gpow_lt {a : Nat} (ha : a < 16) : ∀ n, gpow a n < 16
  | 0 => (by show 1 < 16; decide)
  | n + 1 => gm_lt (gpow_lt ha n) ha
end G
end
section
namespace G
open Mn
/-! ### the law -/
def stt (xs : List Int) (p s c : Int) (t a b cc pw st : Option (D × Kd)) : M := [some (.lst (xs.map .int), .z), some (row xs p s c), t, pw, st, a, b, cc]
def Inv (xs : List Int) (μ : M) : Prop := ∃ p s c t a b cc pw st, 0 ≤ p ∧ μ = stt xs p s c t a b cc pw st
theorem draw16 (xs : List Int) (p s c : Int) (h0 : 0 ≤ p) : ∃ r : Nat, ∃ p' s' c', r < 16 ∧ 0 ≤ p' ∧ f__law_taken (row xs p s c) [.int 16] = some (.ok (.int (r : Int), .z), row xs p' s' c') := by
  obtain ⟨r, p', s', c', h1, h2, h3, e⟩ := taken xs p s c (many := 16) h0 (by decide) (by decide)
  exact ⟨r.toNat, p', s', c', by omega, h3, by rw [show ((r.toNat : Nat) : Int) = r by omega]; exact e⟩
theorem pow_loop {a : Nat} (ha : a < 16) {xs : List Int} {p s c : Int} {t b cc st : Option (D × Kd)} : mTurns (gN 4) l_law_0 (rangeD 0 15) (stt xs p s c t (some (.int (a : Int), .z)) b cc (some (.int 1, .z)) st) = some (.ok .nx, stt xs p s c t (some (.int (a : Int), .z)) b cc (some (.int ((gpow a 15 : Nat) : Int), .z)) (some (.int 14, .z))) := by
  have h := turns_fold (g := gN 4) (b := l_law_0) (S := Nat × Option (D × Kd)) (enc := fun q => stt xs p s c t (some (.int (a : Int), .z)) b cc (some (.int ((gpow a q.1 : Nat) : Int), .z)) q.2) (step := fun q d => (q.1 + 1, some (d, .z))) (ok := fun _ => True) (rangeD 0 15) (0, st) trivial (fun q d _ _ => ⟨trivial, _, rfl, .inl (by
    simp only [l_law_0, stt, row, ↓bnd_def, ↓giv_a, ↓opt_a, ↓mSeq_a, ↓mIf_a, ↓mB_a, ↓mT_a, ↓m1_a, ↓mN_a, ↓m2_a, ↓mCh_a, ↓mAnd_a, ↓mOr_a, ↓vAnd_a, ↓vOr_a, ↓vNot_a, ↓vB_t, ↓vB_f, ↓vB0_t, ↓vB0_f, ↓cond_t, ↓cond_f, ↓unO_a, ↓toO_a, ↓mCall_a, ↓has_a, ↓mCallIO_a, ↓aNil_a, ↓aCons_a, ↓rdv_a, ↓mIxB_a, ↓mLenB_a, ↓mStIx_a, ↓put_a, ↓mSet_a, ↓mSetO_a, ↓mAug_a, ↓mRet_a, ↓mRetO_a, ↓mDrop_a, ↓mRaise_a, ↓mLstO_a, ↓mPar_a, ↓mFor_a, ↓mRg_a, ↓mIt_a, ↓mAsg_a, Rs_ok, Rs_exn, atI_0, ixN_0, atI_1, ixN_1, atI_2, ixN_2, atI_3, ixN_3, atI_4, ixN_4, atI_5, ixN_5, atI_6, ixN_6, atI_7, ixN_7, atI_8, ixN_8, atI_9, ixN_9, atI_10, ixN_10, atI_11, ixN_11, atI_12, ixN_12, atI_13, ixN_13, atI_14, ixN_14, atI_15, ixN_15, atI_16, ixN_16, sq_nx, sq_ct, sq_bk, sq_rt, sq_ex, lp_nx, lp_ct, lp_bk, lp_rt, lp_ex, tn_s, rd_z, rd_s, hs_s, cl_s, ci_s, cj_s, bw_s, brw_a, br_z, br_l, ownL_a, ow_l, ag_s, op_s, asB_b, asI_i, stL_a, gN_a, gAdd_a, gSub_a, gXor_a, gAnd_a, gLt_a, gLe_a, gGt_a, gGe_a, gMul_a, gDiv_a, gMod_a, gPow_a, gNeg_a, gNot_a, gEq_a, gNe_a, eqS_i, eqS_b, eqS_s, eqS_n, eqS_ni, eqS_in, lenD_l, lenD_t, lenD_s, intD_i, intD_b, n1_a, lim_a, ixD_l, ixD_t, truth_n, truth_b, truth_i, truth_t, truth_l, isTy_ii, isTy_ib, isTy_in, isTy_is, isTy_it, isTy_il, isTy_bi, isTy_bb, isTy_ss, isTy_si, isTy_sb, isTy_sn, isTy_st, isTy_sl, isTy_tt, isTy_ti, isTy_tb, isTy_tn, isTy_ts, isTy_tl, isTy_ll, isTy_li, isTy_lb, isTy_ln, isTy_ls, isTy_lt, endsOf_r, endsOf_n, endsOf_e, endsIO_r, endsIO_n, endsIO_e, rng1_a, rng2_a, cond_true, cond_false, Bool.and_true, Bool.true_and, Bool.and_false, Bool.false_and, Bool.or_true, Bool.true_or, Bool.or_false, Bool.false_or, Bool.not_true, Bool.not_false, decide_true, decide_false, Bool.false_eq_true, Bool.true_eq_false, if_true, if_false, eq_self, List.getElem?_cons_zero, List.getElem?_cons_succ, List.set_cons_zero, List.set_cons_succ, List.length_cons, List.length_nil, List.length_set, List.map_cons, List.map_nil, List.replicate, List.append_nil, List.nil_append, List.cons_append, Option.bind_some, Option.bind_none, Option.map_some, Option.map_none, Nat.reduceAdd, Nat.reduceSub, Nat.reduceLT, Nat.reduceLeDiff, Nat.reduceEqDiff, ↓reduceIte, mul_eq, gpow_lt, ha, gpow])⟩)
  exact h.1
theorem turn (xs : List Int) (μ : M) (d : D) (h : Inv xs μ) : ∃ μ1, gN 2 (d, .z) μ = some μ1 ∧ ∃ μ2, Inv xs μ2 ∧ (l_law_1 μ1 = some (.ok .nx, μ2) ∨ l_law_1 μ1 = some (.ok .cont, μ2)) := by
  obtain ⟨p, s, c, t, ja, jb, jc, pw, st, h0, rfl⟩ := h
  refine ⟨_, rfl, ?_⟩
  obtain ⟨a, p1, s1, c1, ha, h1, e1⟩ := draw16 xs p s c h0
  obtain ⟨b, p2, s2, c2, hb, h2, e2⟩ := draw16 xs p1 s1 c1 h1
  obtain ⟨cc, p3, s3, c3, hc, h3, e3⟩ := draw16 xs p2 s2 c2 h2
  refine ⟨stt xs p3 s3 c3 (some (d, .z)) (some (.int (a : Int), .z)) (some (.int (b : Int), .z)) (some (.int (cc : Int), .z)) (some (.int ((gpow a 15 : Nat) : Int), .z)) (some (.int 14, .z)), ⟨p3, s3, c3, _, _, _, _, _, _, h3, rfl⟩, .inl ?_⟩
  have r1 : inR 15 = true := by decide
  have q1 : ∀ {x y : Nat}, x < 16 → y < 16 → x ^^^ y < 16 := fun h h' => xor_lt h h'
  have q2 : ∀ {x y : Nat}, x < 16 → y < 16 → gm x y < 16 := fun h h' => gm_lt h h'
  have q3 : ∀ {x : Nat}, x < 16 → gi x < 16 := fun h => gi_lt h
  have z1 := Nat.xor_comm b a
  have z2 := Nat.xor_assoc a b cc
  have z3 := Nat.xor_self a
  have z4 := gm_comm hb ha
  have z5 := gm_assoc ha hb hc
  have z6 := gm_dist ha hb hc
  have y1 : (0 : Int) ≤ ((gm a b : Nat) : Int) := by omega
  have y2 : ((gm a b : Nat) : Int) < 16 := by have := gm_lt ha hb; omega
  have y3 : sm 2 = true := by decide
  have pl := @pow_loop a ha xs p3 s3 c3 (some (d, .z)) (some (.int (b : Int), .z)) (some (.int (cc : Int), .z)) st
  simp only [stt] at pl
  have pw15 : gpow a 15 = if a = 0 then 0 else 1 := gpow15_all ⟨a, ha⟩
  have t8 : (a : Int) < 8 → 2 * (a : Int) = ((gx a : Nat) : Int) := fun h => by
    rw [gx_small ha (by omega)]
    omega
  have t9 : ¬ (a : Int) < 8 → f_add [.int (2 * (a : Int) - 16), .int 3] = some (.ok (.int ((gx a : Nat) : Int), .z)) := fun h => add3_eq ha (by omega)
  have fin : ∀ (A0 B0 C0 A8 : Bool), decide ((a : Int) = 0) = A0 → decide ((b : Int) = 0) = B0 → decide ((cc : Int) = 0) = C0 → decide ((a : Int) < 8) = A8 →
      l_law_1 ((stt xs p s c t ja jb jc pw st).set 2 (some (d, .z))) = some (.ok .nx, stt xs p3 s3 c3 (some (d, .z)) (some (.int (a : Int), .z)) (some (.int (b : Int), .z)) (some (.int (cc : Int), .z)) (some (.int ((gpow a 15 : Nat) : Int), .z)) (some (.int 14, .z))) := by
    intro A0 B0 C0 A8 hA hB hC h8
    have D1 : B0 = false → f_divide [.int ((gm a b : Nat) : Int), .int (b : Int)] = some (.ok (.int (a : Int), .z)) := fun h => by
      have hb0 : b ≠ 0 := fun z => by rw [h] at hB; simp [z] at hB
      rw [div_eq (gm_lt ha hb) hb hb0, (gm_inv ha hb hb0).1]
    have D2 : B0 = false → f_divide [.int (a : Int), .int (b : Int)] = some (.ok (.int ((gm a (gi b) : Nat) : Int), .z)) := fun h => by
      have hb0 : b ≠ 0 := fun z => by rw [h] at hB; simp [z] at hB
      exact div_eq ha hb hb0
    have D3 : B0 = false → f_multiply [.int ((gm a (gi b) : Nat) : Int), .int (b : Int)] = some (.ok (.int (a : Int), .z)) := fun h => by
      have hb0 : b ≠ 0 := fun z => by rw [h] at hB; simp [z] at hB
      rw [mul_eq (gm_lt ha (gi_lt hb)) hb, (gm_inv ha hb hb0).2.1]
    have D4 : B0 = false → f_divide [.int (b : Int), .int (b : Int)] = some (.ok (.int 1, .z)) := fun h => by
      have hb0 : b ≠ 0 := fun z => by rw [h] at hB; simp [z] at hB
      rw [div_eq hb hb hb0, (gm_inv ha hb hb0).2.2]
      rfl
    have D5 : B0 = false → C0 = false → f_divide [.int ((gm a (gi b) : Nat) : Int), .int (cc : Int)] = some (.ok (.int ((gm a (gi (gm b cc)) : Nat) : Int), .z)) := fun h h' => by
      have hb0 : b ≠ 0 := fun z => by rw [h] at hB; simp [z] at hB
      have hc0 : cc ≠ 0 := fun z => by rw [h'] at hC; simp [z] at hC
      rw [div_eq (gm_lt ha (gi_lt hb)) hc hc0, gm_assoc ha (gi_lt hb) (gi_lt hc), (gi_mul hb hc hb0 hc0).2]
    have D6 : B0 = false → C0 = false → f_divide [.int (a : Int), .int ((gm b cc : Nat) : Int)] = some (.ok (.int ((gm a (gi (gm b cc)) : Nat) : Int), .z)) := fun h h' => by
      have hb0 : b ≠ 0 := fun z => by rw [h] at hB; simp [z] at hB
      have hc0 : cc ≠ 0 := fun z => by rw [h'] at hC; simp [z] at hC
      exact div_eq ha (gm_lt hb hc) (gi_mul hb hc hb0 hc0).1
    have D7 : A0 = false → B0 = false → decide (((gm a b : Nat) : Int) = 0) = false := fun h h' => by
      have ha0 : a ≠ 0 := fun z => by rw [h] at hA; simp [z] at hA
      have hb0 : b ≠ 0 := fun z => by rw [h'] at hB; simp [z] at hB
      have := (gi_mul ha hb ha0 hb0).1
      exact decide_eq_false (by omega)
    have D8 : ((gpow a 15 : Nat) : Int) = if A0 = true then 0 else 1 := by
      rw [pw15, ← hA]
      by_cases z : a = 0
      · rw [if_pos z, if_pos (decide_eq_true (by omega))]; rfl
      · rw [if_neg z, if_neg (by intro q; exact z (by have := of_decide_eq_true q; omega))]; rfl
    have t9' : A8 = false → f_add [.int (2 * (a : Int) - 16), .int 3] = some (.ok (.int ((gx a : Nat) : Int), .z)) := fun h => t9 (of_decide_eq_false (h8.trans h))
    have t8' : A8 = true → 2 * (a : Int) = ((gx a : Nat) : Int) := fun h => t8 (of_decide_eq_true (h8.trans h))
    clear t8 t9
    cases A0 <;> cases B0 <;> cases C0 <;> cases A8 <;> (
      simp only [true_implies, forall_const, Bool.false_eq_true, Bool.true_eq_false, false_implies, reduceCtorEq] at D1 D2 D3 D4 D5 D6 D7 D8 t8' t9'
      simp only [l_law_1, stt, ↓bnd_def, ↓giv_a, ↓opt_a, ↓mSeq_a, ↓mIf_a, ↓mB_a, ↓mT_a, ↓m1_a, ↓mN_a, ↓m2_a, ↓mCh_a, ↓mAnd_a, ↓mOr_a, ↓vAnd_a, ↓vOr_a, ↓vNot_a, ↓vB_t, ↓vB_f, ↓vB0_t, ↓vB0_f, ↓cond_t, ↓cond_f, ↓unO_a, ↓toO_a, ↓mCall_a, ↓has_a, ↓mCallIO_a, ↓aNil_a, ↓aCons_a, ↓rdv_a, ↓mIxB_a, ↓mLenB_a, ↓mStIx_a, ↓put_a, ↓mSet_a, ↓mSetO_a, ↓mAug_a, ↓mRet_a, ↓mRetO_a, ↓mDrop_a, ↓mRaise_a, ↓mLstO_a, ↓mPar_a, ↓mFor_a, ↓mRg_a, ↓mIt_a, ↓mAsg_a, Rs_ok, Rs_exn, atI_0, ixN_0, atI_1, ixN_1, atI_2, ixN_2, atI_3, ixN_3, atI_4, ixN_4, atI_5, ixN_5, atI_6, ixN_6, atI_7, ixN_7, atI_8, ixN_8, atI_9, ixN_9, atI_10, ixN_10, atI_11, ixN_11, atI_12, ixN_12, atI_13, ixN_13, atI_14, ixN_14, atI_15, ixN_15, atI_16, ixN_16, sq_nx, sq_ct, sq_bk, sq_rt, sq_ex, lp_nx, lp_ct, lp_bk, lp_rt, lp_ex, tn_s, rd_z, rd_s, hs_s, cl_s, ci_s, cj_s, bw_s, brw_a, br_z, br_l, ownL_a, ow_l, ag_s, op_s, asB_b, asI_i, stL_a, gN_a, gAdd_a, gSub_a, gXor_a, gAnd_a, gLt_a, gLe_a, gGt_a, gGe_a, gMul_a, gDiv_a, gMod_a, gPow_a, gNeg_a, gNot_a, gEq_a, gNe_a, eqS_i, eqS_b, eqS_s, eqS_n, eqS_ni, eqS_in, lenD_l, lenD_t, lenD_s, intD_i, intD_b, n1_a, lim_a, ixD_l, ixD_t, truth_n, truth_b, truth_i, truth_t, truth_l, isTy_ii, isTy_ib, isTy_in, isTy_is, isTy_it, isTy_il, isTy_bi, isTy_bb, isTy_ss, isTy_si, isTy_sb, isTy_sn, isTy_st, isTy_sl, isTy_tt, isTy_ti, isTy_tb, isTy_tn, isTy_ts, isTy_tl, isTy_ll, isTy_li, isTy_lb, isTy_ln, isTy_ls, isTy_lt, endsOf_r, endsOf_n, endsOf_e, endsIO_r, endsIO_n, endsIO_e, rng1_a, rng2_a, cond_true, cond_false, Bool.and_true, Bool.true_and, Bool.and_false, Bool.false_and, Bool.or_true, Bool.true_or, Bool.or_false, Bool.false_or, Bool.not_true, Bool.not_false, decide_true, decide_false, Bool.false_eq_true, Bool.true_eq_false, if_true, if_false, eq_self, List.getElem?_cons_zero, List.getElem?_cons_succ, List.set_cons_zero, List.set_cons_succ, List.length_cons, List.length_nil, List.length_set, List.map_cons, List.map_nil, List.replicate, List.append_nil, List.nil_append, List.cons_append, Option.bind_some, Option.bind_none, Option.map_some, Option.map_none, Nat.reduceAdd, Nat.reduceSub, Nat.reduceLT, Nat.reduceLeDiff, Nat.reduceEqDiff, ↓reduceIte, e1, e2, e3, List.all_cons, List.all_nil, List.zip_cons_cons, List.zip_nil_right, List.foldl_cons, List.foldl_nil, and_self, D1, D2, D3, D4, D5, D6, add_eq, mul_eq, add0_eq, mul0_eq, mul1_eq, mul2_eq, ha, hb, hc, q1, q2, q3, z1, z2, z3, z4, z5, z6, Int.natCast_zero, Int.cast_ofNat_Int, Int.natCast_inj, hA, hB, hC, h8, t8', t9', y1, y2, y3, r1, pl, D7, D8])
  exact fin _ _ _ _ rfl rfl rfl rfl
theorem law_true : LawTrue := fun xs hl => by
  obtain ⟨μ2, e, I⟩ := turns_inv (g := gN 2) (b := l_law_1) (I := Inv xs) (rangeD 0 30) (stt xs 0 0 0 none none none none none none) ⟨0, 0, 0, _, _, _, _, _, _, by decide, rfl⟩ (fun μ d h _ => turn xs μ d h)
  have r1 : inR 30 = true := by decide
  obtain ⟨p, s, c, t, a, b, cc, pw, st, h0, rfl⟩ := I
  simp only [stt, row] at e
  simp only [f_law, semF, b_law, mu0, ↓bnd_def, ↓giv_a, ↓opt_a, ↓mSeq_a, ↓mIf_a, ↓mB_a, ↓mT_a, ↓m1_a, ↓mN_a, ↓m2_a, ↓mCh_a, ↓mAnd_a, ↓mOr_a, ↓vAnd_a, ↓vOr_a, ↓vNot_a, ↓vB_t, ↓vB_f, ↓vB0_t, ↓vB0_f, ↓cond_t, ↓cond_f, ↓unO_a, ↓toO_a, ↓mCall_a, ↓has_a, ↓mCallIO_a, ↓aNil_a, ↓aCons_a, ↓rdv_a, ↓mIxB_a, ↓mLenB_a, ↓mStIx_a, ↓put_a, ↓mSet_a, ↓mSetO_a, ↓mAug_a, ↓mRet_a, ↓mRetO_a, ↓mDrop_a, ↓mRaise_a, ↓mLstO_a, ↓mPar_a, ↓mFor_a, ↓mRg_a, ↓mIt_a, ↓mAsg_a, Rs_ok, Rs_exn, atI_0, ixN_0, atI_1, ixN_1, atI_2, ixN_2, atI_3, ixN_3, atI_4, ixN_4, atI_5, ixN_5, atI_6, ixN_6, atI_7, ixN_7, atI_8, ixN_8, atI_9, ixN_9, atI_10, ixN_10, atI_11, ixN_11, atI_12, ixN_12, atI_13, ixN_13, atI_14, ixN_14, atI_15, ixN_15, atI_16, ixN_16, sq_nx, sq_ct, sq_bk, sq_rt, sq_ex, lp_nx, lp_ct, lp_bk, lp_rt, lp_ex, tn_s, rd_z, rd_s, hs_s, cl_s, ci_s, cj_s, bw_s, brw_a, br_z, br_l, ownL_a, ow_l, ag_s, op_s, asB_b, asI_i, stL_a, gN_a, gAdd_a, gSub_a, gXor_a, gAnd_a, gLt_a, gLe_a, gGt_a, gGe_a, gMul_a, gDiv_a, gMod_a, gPow_a, gNeg_a, gNot_a, gEq_a, gNe_a, eqS_i, eqS_b, eqS_s, eqS_n, eqS_ni, eqS_in, lenD_l, lenD_t, lenD_s, intD_i, intD_b, n1_a, lim_a, ixD_l, ixD_t, truth_n, truth_b, truth_i, truth_t, truth_l, isTy_ii, isTy_ib, isTy_in, isTy_is, isTy_it, isTy_il, isTy_bi, isTy_bb, isTy_ss, isTy_si, isTy_sb, isTy_sn, isTy_st, isTy_sl, isTy_tt, isTy_ti, isTy_tb, isTy_tn, isTy_ts, isTy_tl, isTy_ll, isTy_li, isTy_lb, isTy_ln, isTy_ls, isTy_lt, endsOf_r, endsOf_n, endsOf_e, endsIO_r, endsIO_n, endsIO_e, rng1_a, rng2_a, cond_true, cond_false, Bool.and_true, Bool.true_and, Bool.and_false, Bool.false_and, Bool.or_true, Bool.true_or, Bool.or_false, Bool.false_or, Bool.not_true, Bool.not_false, decide_true, decide_false, Bool.false_eq_true, Bool.true_eq_false, if_true, if_false, eq_self, List.getElem?_cons_zero, List.getElem?_cons_succ, List.set_cons_zero, List.set_cons_succ, List.length_cons, List.length_nil, List.length_set, List.map_cons, List.map_nil, List.replicate, List.append_nil, List.nil_append, List.cons_append, Option.bind_some, Option.bind_none, Option.map_some, Option.map_none, Nat.reduceAdd, Nat.reduceSub, Nat.reduceLT, Nat.reduceLeDiff, Nat.reduceEqDiff, ↓reduceIte, r1, e]
end G
end
theorem PySem.Challenge.cw_squaremark_k18_whole_sums_and_products_holds : PySem.Challenge.rw_squaremark_k18_whole_sums_and_products.Holds :=
  G.holds_of G.law_true
