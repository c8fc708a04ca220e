import PyProof.Rows.All
import Wide.All
import OpenK.AllK
import Wide.FinOn
import PyProof.EqAt
import PyProof.EqKinds
import PyProof.TupleCall
import HandS.ForMost
import HandS.Exc
import HandS.TryOnly
import HandS.ExcOwn
import HandS.WordsExc
import HandS.Defaults
import HandS.CallSlots
import HandS.IsInst
import HandS.Style
import HandS.HeadHook1
import HandS.HeadHook2
import HandS.Wide
import HandS.Comp
import HandS.Lambda
import KE.GoesEnum
import HandS.Iter
import HandS.Zip
import HandS.List
import HandS.Text
import HandS.TupAny
import HandS.TupMul
import HandS.Codes
import HandS.Rev
import KE.KRevSl
import HandS.Dict
import KE.KDictZip
import PyProof.ListRange
import KE.KStateDown
import Lean
import HandS.Head0
import HandS.Head1
import HandS.Head2
import HandS.HeadEnd
import PySem.Challenge.RW_squaremark_k02_check_symbols
set_option Elab.async false
set_option linter.all false
set_option maxRecDepth 100000
set_option maxHeartbeats 4000000
section
/-! Mn: pure trees over the hand layer: a tree D for a value, what is owned (may be changed), the state, what a reading in trees is. -/
namespace Mn
open PySem PySem.Spec PyProof.Rows L2

/-- a value as a tree -/
inductive D where
  | non | bl (b : Bool) | int (i : Int) | str (x : List Nat) | tup (xs : List D) | lst (xs : List D) | dct (ks vs : List D)
  deriving Inhabited

mutual
def D.beq : D → D → Bool
  | .non, .non => true
  | .bl a, .bl b => a == b
  | .int i, .int j => decide (i = j)
  | .str x, .str y => decide (x = y)
  | .tup x, .tup y => D.beqs x y
  | .lst x, .lst y => D.beqs x y
  | .dct x y, .dct x' y' => D.beqs x x' && D.beqs y y'
  | _, _ => false
def D.beqs : List D → List D → Bool
  | [], [] => true
  | x :: xs, y :: ys => D.beq x y && D.beqs xs ys
  | _, _ => false
end
mutual
theorem D.beq_eq : ∀ (d e : D), D.beq d e = true → d = e
  | .non, e, h => by cases e <;> first | rfl | cases h
  | .bl a, e, h => by
    cases e with
    | bl b => rw [show a = b from eq_of_beq h]
    | _ => cases h
  | .int a, e, h => by
    cases e with
    | int b => rw [show a = b from of_decide_eq_true h]
    | _ => cases h
  | .str a, e, h => by
    cases e with
    | str b => rw [show a = b from of_decide_eq_true h]
    | _ => cases h
  | .tup a, e, h => by
    cases e with
    | tup b => rw [D.beqs_eq a b h]
    | _ => cases h
  | .lst a, e, h => by
    cases e with
    | lst b => rw [D.beqs_eq a b h]
    | _ => cases h
  | .dct a b, e, h => by
    cases e with
    | dct c d =>
      have h2 := Bool.and_eq_true_iff.mp h
      rw [D.beqs_eq a c h2.1, D.beqs_eq b d h2.2]
    | _ => cases h
theorem D.beqs_eq : ∀ (d e : List D), D.beqs d e = true → d = e
  | [], e, h => by cases e <;> first | rfl | cases h
  | x :: xs, e, h => by
    cases e with
    | nil => cases h
    | cons y ys =>
      have h2 := Bool.and_eq_true_iff.mp h
      rw [D.beq_eq x y h2.1, D.beqs_eq xs ys h2.2]
end
mutual
theorem D.beq_rfl : ∀ (d : D), D.beq d d = true
  | .non => rfl
  | .bl a => beq_self_eq_true a
  | .int a => decide_eq_true rfl
  | .str a => decide_eq_true rfl
  | .tup a => D.beqs_rfl a
  | .lst a => D.beqs_rfl a
  | .dct a b => Bool.and_eq_true_iff.mpr ⟨D.beqs_rfl a, D.beqs_rfl b⟩
theorem D.beqs_rfl : ∀ (d : List D), D.beqs d d = true
  | [] => rfl
  | x :: xs => Bool.and_eq_true_iff.mpr ⟨D.beq_rfl x, D.beqs_rfl xs⟩
end
instance : DecidableEq D := fun d e => if h : D.beq d e = true then .isTrue (D.beq_eq d e h) else .isFalse fun q => h (by rw [q]; exact D.beq_rfl e)

/-- how far a value is owned: not at all; its root, and its items as told -/
inductive Kd where
  | z | s (k : Kd)
  deriving DecidableEq, Inhabited

abbrev Frag := PySem.W.Frag
abbrev Sg := L2.St

/-- a dict's key -/
def keyD : D → Option Key
  | .int i => some (.inl i)
  | .str x => some (.inr ⟨x.toArray⟩)
  | _ => none
mutual
def Rep (K : Frag) (F : Hp) : D → V → Prop
  | .non, v => v = .non
  | .bl b, v => v = .bl b
  | .int i, v => v = .int i
  | .str x, v => v = .str ⟨x.toArray⟩
  | .tup ds, v => ∃ a vs, v = .ref a ∧ SqT K F a vs ∧ Reps K F ds vs
  | .lst ds, v => ∃ a vs, v = .ref a ∧ SqL K F a vs ∧ Reps K F ds vs
  | .dct ks ds, v => ∃ a kvs, v = .ref a ∧ Rd F a (.dK kvs) ∧ ks.map keyD = kvs.map (fun p => some p.1) ∧ Reps K F ds (kvs.map (fun p => p.2))
def Reps (K : Frag) (F : Hp) : List D → List V → Prop
  | [], vs => vs = []
  | d :: ds, vs => ∃ v r, vs = v :: r ∧ Rep K F d v ∧ Reps K F ds r
end

def Ex (H H' : Hp) : Prop := ∀ a o, H a = some o → H' a = some o
theorem Ex.refl (H : Hp) : Ex H H := fun _ _ h => h
theorem Ex.trans {H H1 H2 : Hp} (a : Ex H H1) (b : Ex H1 H2) : Ex H H2 := fun x o h => b x o (a x o h)
theorem Ex.new {H : Hp} {p : Addr} {o : HO} (h : H p = none) : Ex H (upd H p o) := fun a u e => by
  rw [upd_ne (ne_of_none e h)]
  exact e
theorem ex_rd {H H' : Hp} {a : Addr} {u : HO} (e : Ex H H') (h : Rd H a u) : Rd H' a u := by
  rcases h with h | ⟨o, h⟩
  · exact Or.inl (e a _ h)
  · exact Or.inr ⟨o, e a _ h⟩
theorem ex_l {K : Frag} {H H' : Hp} {a : Addr} {xs : List V} (e : Ex H H') (h : SqL K H a xs) : SqL K H' a xs := by
  rcases h with h | h
  · exact Or.inl (ex_rd e h)
  · exact Or.inr h
theorem ex_t {K : Frag} {H H' : Hp} {a : Addr} {xs : List V} (e : Ex H H') (h : SqT K H a xs) : SqT K H' a xs := by
  rcases h with h | h
  · exact Or.inl (ex_rd e h)
  · exact Or.inr h

mutual
theorem Rep.ex {K : Frag} {F F' : Hp} (e : Ex F F') : ∀ {d : D} {v : V}, Rep K F d v → Rep K F' d v
  | .non, _, h => h
  | .bl _, _, h => h
  | .int _, _, h => h
  | .str _, _, h => h
  | .tup _, _, h => by
    obtain ⟨a, vs, e1, h1, h2⟩ := h
    exact ⟨a, vs, e1, ex_t e h1, Reps.ex e h2⟩
  | .lst _, _, h => by
    obtain ⟨a, vs, e1, h1, h2⟩ := h
    exact ⟨a, vs, e1, ex_l e h1, Reps.ex e h2⟩
  | .dct _ _, _, h => by
    obtain ⟨a, kvs, e1, h1, h3, h2⟩ := h
    exact ⟨a, kvs, e1, ex_rd e h1, h3, Reps.ex e h2⟩
theorem Reps.ex {K : Frag} {F F' : Hp} (e : Ex F F') : ∀ {ds : List D} {vs : List V}, Reps K F ds vs → Reps K F' ds vs
  | [], _, h => h
  | _ :: _, _, h => by
    obtain ⟨v, r, e1, h1, h2⟩ := h
    exact ⟨v, r, e1, Rep.ex e h1, Reps.ex e h2⟩
end

theorem Reps.length {K : Frag} {F : Hp} : ∀ {ds : List D} {vs : List V}, Reps K F ds vs → vs.length = ds.length
  | [], _, h => by
    have e : _ = [] := h
    rw [e]
    rfl
  | _ :: _, _, h => by
    obtain ⟨v, r, e1, h1, h2⟩ := h
    rw [e1, List.length_cons, List.length_cons, Reps.length h2]
theorem Reps.get {K : Frag} {F : Hp} : ∀ {ds : List D} {vs : List V} {i : Nat} {d : D}, Reps K F ds vs → ds[i]? = some d → ∃ v, vs[i]? = some v ∧ Rep K F d v
  | [], _, _, _, _, e => by simp at e
  | _ :: _, _, 0, d, h, e => by
    obtain ⟨v, r, e1, h1, h2⟩ := h
    subst e1
    simp at e
    subst e
    exact ⟨v, rfl, h1⟩
  | _ :: _, _, i + 1, d, h, e => by
    obtain ⟨v, r, e1, h1, h2⟩ := h
    subst e1
    obtain ⟨u, q1, q2⟩ := Reps.get (i := i) (d := d) h2 (by simpa using e)
    exact ⟨u, by simpa using q1, q2⟩
theorem Reps.append {K : Frag} {F : Hp} : ∀ {ds es : List D} {vs us : List V}, Reps K F ds vs → Reps K F es us → Reps K F (ds ++ es) (vs ++ us)
  | [], _, _, _, h, q => by
    have e : _ = [] := h
    rw [e]
    exact q
  | _ :: _, _, _, _, h, q => by
    obtain ⟨v, r, e1, h1, h2⟩ := h
    subst e1
    exact ⟨v, _, rfl, h1, Reps.append h2 q⟩
theorem Reps.cons {K : Frag} {F : Hp} {d : D} {ds : List D} {v : V} {vs : List V} (h : Rep K F d v) (q : Reps K F ds vs) : Reps K F (d :: ds) (v :: vs) := ⟨v, vs, rfl, h, q⟩
theorem Reps.nil {K : Frag} {F : Hp} : Reps K F [] [] := rfl
theorem Reps.set {K : Frag} {F : Hp} {d : D} {v : V} (q : Rep K F d v) : ∀ {ds : List D} {vs : List V} (i : Nat), Reps K F ds vs → Reps K F (ds.set i d) (vs.set i v)
  | [], _, _, h => by
    have e : _ = [] := h
    rw [e]
    exact Reps.nil
  | _ :: _, _, 0, h => by
    obtain ⟨u, r, e1, h1, h2⟩ := h
    subst e1
    exact Reps.cons q h2
  | _ :: _, _, i + 1, h => by
    obtain ⟨u, r, e1, h1, h2⟩ := h
    subst e1
    exact Reps.cons h1 (Reps.set q i h2)
theorem Reps.take {K : Frag} {F : Hp} : ∀ {ds : List D} {vs : List V} (n : Nat), Reps K F ds vs → Reps K F (ds.take n) (vs.take n)
  | [], _, n, h => by
    have e : _ = [] := h
    subst e
    cases n <;> exact Reps.nil
  | _ :: _, _, 0, _ => Reps.nil
  | _ :: _, _, n + 1, h => by
    obtain ⟨u, r, e1, h1, h2⟩ := h
    subst e1
    exact Reps.cons h1 (Reps.take n h2)
theorem Reps.drop {K : Frag} {F : Hp} : ∀ {ds : List D} {vs : List V} (n : Nat), Reps K F ds vs → Reps K F (ds.drop n) (vs.drop n)
  | [], _, n, h => by
    have e : _ = [] := h
    subst e
    cases n <;> exact Reps.nil
  | _ :: _, _, 0, h => h
  | _ :: _, _, n + 1, h => by
    obtain ⟨u, r, e1, h1, h2⟩ := h
    subst e1
    exact Reps.drop n h2

/-! ### what is owned -/
def mask (H : Hp) (S : List Addr) : Hp := fun a => if a ∈ S then none else H a
theorem mask_some {H : Hp} {S : List Addr} {a : Addr} {o : HO} : mask H S a = some o ↔ a ∉ S ∧ H a = some o := by
  unfold mask
  split
  · rename_i h
    constructor
    · intro e
      cases e
    · intro e
      exact absurd h e.1
  · rename_i h
    constructor
    · intro e
      exact ⟨h, e⟩
    · intro e
      exact e.2
theorem mask_ex {H : Hp} {S : List Addr} : Ex (mask H S) H := fun a o e => (mask_some.mp e).2
theorem mask_mono {H H' : Hp} {S S' : List Addr} (h : ∀ a o, a ∉ S → H a = some o → a ∉ S' ∧ H' a = some o) : Ex (mask H S) (mask H' S') := fun a o e => by
  obtain ⟨h1, h2⟩ := mask_some.mp e
  exact mask_some.mpr (h a o h1 h2)
theorem mask_nil {H : Hp} : mask H [] = H := by
  funext a
  unfold mask
  simp

section
variable (K : Frag) (F H : Hp)
/-- owned items, each with its own addresses -/
def OwnsF (f : D → V → List Addr → Prop) : List D → List V → List Addr → Prop
  | [], vs, S => vs = [] ∧ S = []
  | d :: ds, vs, S => ∃ v r S1 S2, vs = v :: r ∧ S = S1 ++ S2 ∧ f d v S1 ∧ OwnsF f ds r S2
def Own : Kd → D → V → List Addr → Prop
  | .z, d, v, S => S = [] ∧ Rep K F d v
  | .s k, .lst ds, v, S => ∃ a vs S1, v = .ref a ∧ H a = some (.lst vs) ∧ S = a :: S1 ∧ OwnsF (Own k) ds vs S1
  | .s k, .dct ks ds, v, S => ∃ a kvs S1, v = .ref a ∧ H a = some (.dK kvs) ∧ S = a :: S1 ∧ ks.map keyD = kvs.map (fun p => some p.1) ∧ OwnsF (Own k) ds (kvs.map (fun p => p.2)) S1
  | .s k, .tup ds, v, S => ∃ a vs, v = .ref a ∧ SqT K F a vs ∧ OwnsF (Own k) ds vs S
  | .s _, d, v, S => S = [] ∧ Rep K F d v
end
/-- the slots (temporaries ahead): none: nothing is known -/
def Sls (f : Kd → D → V → List Addr → Prop) : List (Option V) → List (Option (D × Kd)) → List Addr → Prop
  | [], [], S => S = []
  | _ :: σ, none :: μ, S => Sls f σ μ S
  | x :: σ, some (d, k) :: μ, S => ∃ v S1 S2, x = some v ∧ S = S1 ++ S2 ∧ f k d v S1 ∧ Sls f σ μ S2
  | _, _, _ => False

theorem OwnsF.mono {f g : D → V → List Addr → Prop} : ∀ {ds : List D} {vs : List V} {S : List Addr}, (∀ d v S1, (∀ a ∈ S1, a ∈ S) → f d v S1 → g d v S1) → OwnsF f ds vs S → OwnsF g ds vs S
  | [], _, _, _, h => h
  | d :: ds, _, _, m, h => by
    obtain ⟨v, r, S1, S2, e1, e2, h1, h2⟩ := h
    subst e2
    exact ⟨v, r, S1, S2, e1, rfl, m _ _ _ (fun a ha => List.mem_append_left _ ha) h1, OwnsF.mono (fun d v S q => m d v S fun a ha => List.mem_append_right _ (q a ha)) h2⟩
theorem Own.mono {K : Frag} {F F' H H' : Hp} (e : Ex F F') : ∀ {k : Kd} {d : D} {v : V} {S : List Addr}, (∀ a ∈ S, H' a = H a) → Own K F H k d v S → Own K F' H' k d v S
  | .z, _, _, _, _, h => ⟨h.1, h.2.ex e⟩
  | .s k, .lst _, _, _, m, h => by
    obtain ⟨a, vs, S1, e1, e2, e3, h1⟩ := h
    subst e3
    refine ⟨a, vs, S1, e1, (m a List.mem_cons_self).trans e2, rfl, OwnsF.mono (fun d v S2 q => Own.mono e fun b hb => m b (List.mem_cons_of_mem _ (q b hb))) h1⟩
  | .s k, .dct _ _, _, _, m, h => by
    obtain ⟨a, kvs, S1, e1, e2, e3, e4, h1⟩ := h
    subst e3
    exact ⟨a, kvs, S1, e1, (m a List.mem_cons_self).trans e2, rfl, e4, OwnsF.mono (fun d v S2 q => Own.mono e fun b hb => m b (List.mem_cons_of_mem _ (q b hb))) h1⟩
  | .s k, .tup _, _, _, m, h => by
    obtain ⟨a, vs, e1, e2, h1⟩ := h
    exact ⟨a, vs, e1, ex_t e e2, OwnsF.mono (fun d v S2 q => Own.mono e fun b hb => m b (q b hb)) h1⟩
  | .s k, .non, _, _, _, h => ⟨h.1, h.2.ex e⟩
  | .s k, .bl _, _, _, _, h => ⟨h.1, h.2.ex e⟩
  | .s k, .int _, _, _, _, h => ⟨h.1, h.2.ex e⟩
  | .s k, .str _, _, _, _, h => ⟨h.1, h.2.ex e⟩
theorem Sls.mono {f g : Kd → D → V → List Addr → Prop} : ∀ {σ : List (Option V)} {μ : List (Option (D × Kd))} {S : List Addr}, (∀ k d v S1, (∀ a ∈ S1, a ∈ S) → f k d v S1 → g k d v S1) → Sls f σ μ S → Sls g σ μ S
  | [], [], _, _, h => h
  | _ :: σ, none :: μ, _, m, h => Sls.mono (σ := σ) (μ := μ) m h
  | _ :: _, some (d, k) :: _, _, m, h => by
    obtain ⟨v, S1, S2, e1, e2, h1, h2⟩ := h
    subst e2
    exact ⟨v, S1, S2, e1, rfl, m _ _ _ _ (fun a ha => List.mem_append_left _ ha) h1, Sls.mono (fun k d v S q => m k d v S fun a ha => List.mem_append_right _ (q a ha)) h2⟩
  | [], _ :: _, _, _, h => h.elim
  | _ :: _, [], _, _, h => h.elim

theorem OwnsF.reps {K : Frag} {F F' : Hp} {f : D → V → List Addr → Prop} : ∀ {ds : List D} {vs : List V} {S : List Addr}, (∀ d v S1, (∀ a ∈ S1, a ∈ S) → f d v S1 → Rep K F' d v) → OwnsF f ds vs S → Reps K F' ds vs
  | [], _, _, _, h => h.1
  | d :: ds, _, _, m, h => by
    obtain ⟨v, r, S1, S2, e1, e2, h1, h2⟩ := h
    subst e1
    subst e2
    exact Reps.cons (m _ _ _ (fun a ha => List.mem_append_left _ ha) h1) (OwnsF.reps (F := F) (fun d v S q => m d v S fun a ha => List.mem_append_right _ (q a ha)) h2)
/-- what is owned, frozen -/
theorem Own.rep {K : Frag} {F F' H : Hp} (e : Ex F F') : ∀ {k : Kd} {d : D} {v : V} {S : List Addr}, (∀ a ∈ S, ∀ o, H a = some o → F' a = some o) → Own K F H k d v S → Rep K F' d v
  | .z, _, _, _, _, h => h.2.ex e
  | .s k, .lst _, _, _, m, h => by
    obtain ⟨a, vs, S1, e1, e2, e3, h1⟩ := h
    subst e3
    exact ⟨a, vs, e1, SqL.of (m a List.mem_cons_self _ e2), OwnsF.reps (F := F) (fun d v S2 q => Own.rep e fun b hb => m b (List.mem_cons_of_mem _ (q b hb))) h1⟩
  | .s k, .dct _ _, _, _, m, h => by
    obtain ⟨a, kvs, S1, e1, e2, e3, e4, h1⟩ := h
    subst e3
    exact ⟨a, kvs, e1, .inl (m a List.mem_cons_self _ e2), e4, OwnsF.reps (F := F) (fun d v S2 q => Own.rep e fun b hb => m b (List.mem_cons_of_mem _ (q b hb))) h1⟩
  | .s k, .tup _, _, _, m, h => by
    obtain ⟨a, vs, e1, e2, h1⟩ := h
    exact ⟨a, vs, e1, ex_t e e2, OwnsF.reps (F := F) (fun d v S2 q => Own.rep e fun b hb => m b (q b hb)) h1⟩
  | .s k, .non, _, _, _, h => h.2.ex e
  | .s k, .bl _, _, _, _, h => h.2.ex e
  | .s k, .int _, _, _, _, h => h.2.ex e
  | .s k, .str _, _, _, _, h => h.2.ex e
theorem OwnsF.tracked {H : Hp} {f : D → V → List Addr → Prop} : ∀ {ds : List D} {vs : List V} {S : List Addr}, (∀ d v S1, f d v S1 → ∀ a ∈ S1, H a ≠ none) → OwnsF f ds vs S → ∀ a ∈ S, H a ≠ none
  | [], _, _, _, h, a, ha => by
    rw [h.2] at ha
    cases ha
  | d :: ds, _, _, m, h, a, ha => by
    obtain ⟨v, r, S1, S2, e1, e2, h1, h2⟩ := h
    subst e2
    rcases List.mem_append.mp ha with ha | ha
    · exact m _ _ _ h1 a ha
    · exact OwnsF.tracked m h2 a ha
theorem Own.tracked {K : Frag} {F H : Hp} : ∀ {k : Kd} {d : D} {v : V} {S : List Addr}, Own K F H k d v S → ∀ a ∈ S, H a ≠ none
  | .z, _, _, _, h, a, ha => by
    rw [h.1] at ha
    cases ha
  | .s k, .lst _, _, _, h, a, ha => by
    obtain ⟨b, vs, S1, e1, e2, e3, h1⟩ := h
    subst e3
    rcases List.mem_cons.mp ha with ha | ha
    · rw [ha, e2]
      exact fun z => nomatch z
    · exact OwnsF.tracked (fun d v S1 q => Own.tracked q) h1 a ha
  | .s k, .dct _ _, _, _, h, a, ha => by
    obtain ⟨b, kvs, S1, e1, e2, e3, e4, h1⟩ := h
    subst e3
    rcases List.mem_cons.mp ha with ha | ha
    · rw [ha, e2]
      exact fun z => nomatch z
    · exact OwnsF.tracked (fun d v S1 q => Own.tracked q) h1 a ha
  | .s k, .tup _, _, _, h, a, ha => by
    obtain ⟨b, vs, e1, e2, h1⟩ := h
    exact OwnsF.tracked (fun d v S1 q => Own.tracked q) h1 a ha
  | .s k, .non, _, _, h, a, ha => by
    rw [h.1] at ha
    cases ha
  | .s k, .bl _, _, _, h, a, ha => by
    rw [h.1] at ha
    cases ha
  | .s k, .int _, _, _, h, a, ha => by
    rw [h.1] at ha
    cases ha
  | .s k, .str _, _, _, h, a, ha => by
    rw [h.1] at ha
    cases ha
theorem Sls.tracked {H : Hp} {f : Kd → D → V → List Addr → Prop} : ∀ {σ : List (Option V)} {μ : List (Option (D × Kd))} {S : List Addr}, (∀ k d v S1, f k d v S1 → ∀ a ∈ S1, H a ≠ none) → Sls f σ μ S → ∀ a ∈ S, H a ≠ none
  | [], [], _, _, h, a, ha => by
    have e : _ = [] := h
    rw [e] at ha
    cases ha
  | _ :: σ, none :: μ, _, m, h, a, ha => Sls.tracked (σ := σ) (μ := μ) m h a ha
  | _ :: _, some (d, k) :: _, _, m, h, a, ha => by
    obtain ⟨v, S1, S2, e1, e2, h1, h2⟩ := h
    subst e2
    rcases List.mem_append.mp ha with ha | ha
    · exact m _ _ _ _ h1 a ha
    · exact Sls.tracked m h2 a ha
  | [], _ :: _, _, _, h, _, _ => h.elim
  | _ :: _, [], _, _, h, _, _ => h.elim

/-! ### the state -/
abbrev M := List (Option (D × Kd))
abbrev own (K : Frag) (S : List Addr) (H : Hp) : Kd → D → V → List Addr → Prop := Own K (mask H S) H
/-- S0: kept for the callers; S: owned by the slots (and temporaries ahead of them) -/
structure R (K : Frag) (S0 S : List Addr) (H : Hp) (σ : List (Option V)) (μ : M) : Prop where
  t0 : ∀ a ∈ S0, H a ≠ none
  dis : ∀ a ∈ S, a ∉ S0
  nd : S.Nodup
  sl : Sls (own K (S0 ++ S) H) σ μ S
theorem R.tr {K : Frag} {S0 S : List Addr} {H : Hp} {σ : List (Option V)} {μ : M} (r : R K S0 S H σ μ) : ∀ a ∈ S0 ++ S, H a ≠ none := fun a ha => by
  rcases List.mem_append.mp ha with ha | ha
  · exact r.t0 a ha
  · exact Sls.tracked (fun k d v S1 q => Own.tracked q) r.sl a ha

/-- the heap goes on: what is not owned stays; what is owned then was owned or is new -/
structure Gr (S : List Addr) (H : Hp) (S' : List Addr) (H' : Hp) : Prop where
  keep : ∀ a o, H a = some o → a ∉ S → H' a = some o
  new : ∀ a ∈ S', a ∈ S ∨ H a = none
theorem Gr.refl {S : List Addr} {H : Hp} : Gr S H S H := ⟨fun _ _ h _ => h, fun _ h => .inl h⟩
theorem Gr.trans {S S1 S2 : List Addr} {H H1 H2 : Hp} (g : Gr S H S1 H1) (h : Gr S1 H1 S2 H2) : Gr S H S2 H2 where
  keep := fun a o e n => h.keep a o (g.keep a o e n) fun z => by
    rcases g.new a z with z | z
    · exact n z
    · rw [e] at z
      cases z
  new := fun a ha => by
    rcases h.new a ha with z | z
    · exact g.new a z
    · cases e : H a with
      | none => exact .inr rfl
      | some o =>
        refine .inl (Classical.byContradiction fun n => ?_)
        rw [g.keep a o e n] at z
        cases z
theorem Gr.ex {S : List Addr} {H H' : Hp} (e : Ex H H') : Gr S H S H' := ⟨fun a o h _ => e a o h, fun _ h => .inl h⟩
theorem Gr.mask {S0 S S' : List Addr} {H H' : Hp} (g : Gr S H S' H') : Ex (mask H (S0 ++ S)) (mask H' (S0 ++ S')) := mask_mono fun a o n e => by
  have n0 : a ∉ S0 := fun z => n (List.mem_append_left _ z)
  have n1 : a ∉ S := fun z => n (List.mem_append_right _ z)
  refine ⟨fun z => ?_, g.keep a o e n1⟩
  rcases List.mem_append.mp z with z | z
  · exact n0 z
  · rcases g.new a z with z | z
    · exact n1 z
    · rw [e] at z
      cases z
/-- the state bears a heap that only grows -/
theorem R.ex {K : Frag} {S0 S : List Addr} {H H' : Hp} {σ : List (Option V)} {μ : M} (r : R K S0 S H σ μ) (e : Ex H H') : R K S0 S H' σ μ where
  t0 := fun a ha z => by
    cases q : H a with
    | none => exact r.t0 a ha q
    | some o =>
      rw [e a o q] at z
      cases z
  dis := r.dis
  nd := r.nd
  sl := Sls.mono (fun k d v S1 q => Own.mono (Gr.mask (Gr.ex e)) fun a ha => by
    have t := r.tr a (List.mem_append_right _ (q a ha))
    cases q : H a with
    | none => exact absurd q t
    | some o => rw [e a o q]) r.sl

/-! ### what comes of a piece of code -/
/-- an exception: its class's name, its fields -/
structure Exn where
  cls : Str
  fs : List (Str × D) := []
  deriving DecidableEq
inductive Res (α : Type) where
  | ok (a : α) | exn (e : Exn)
  deriving DecidableEq
abbrev EV (α : Type) := M → Option (Res α × M)
def Rs {α β : Type} (r : Option (Res α × M)) (f : α → M → Option (Res β × M)) : Option (Res β × M) := match r with
  | none => none
  | some (.exn e, μ') => some (.exn e, μ')
  | some (.ok x, μ') => f x μ'
theorem Rs_none {α β : Type} {f : α → M → Option (Res β × M)} : Rs none f = none := rfl
theorem Rs_exn {α β : Type} {f : α → M → Option (Res β × M)} {e : Exn} {μ : M} : Rs (some (.exn e, μ)) f = some (.exn e, μ) := rfl
theorem Rs_ok {α β : Type} {f : α → M → Option (Res β × M)} {x : α} {μ : M} : Rs (some (.ok x, μ)) f = f x μ := rfl
def bnd {α β : Type} (a : EV α) (f : α → EV β) : EV β := fun μ => Rs (a μ) f
theorem bnd_def {α β : Type} {a : EV α} {f : α → EV β} {μ : M} : bnd a f μ = Rs (a μ) f := rfl
def giv {α : Type} (a : α) : EV α := fun μ => some (.ok a, μ)
def op' {α : Type} (μ : M) : Option α → Option (Res α × M)
  | none => none
  | some x => some (.ok x, μ)
def opt {α : Type} (a : Option α) : EV α := fun μ => op' μ a
def ExR (K : Frag) (mg : Str → Option Value) (S : List Addr) (cls : Value) (dc : Option Addr) (H : Hp) (e : Exn) : Prop :=
  ∃ C, mg e.cls = some (.ref C) ∧ cls = .ref C ∧ (e.fs = [] ∨ ∃ dd fvs, dc = some dd ∧ H dd = some (.xd fvs) ∧ dd ∉ S ∧ fvs.map (·.1) = e.fs.map (·.1) ∧ Reps K (mask H S) (e.fs.map (·.2)) (fvs.map (·.2)))

/-- the reading of code in trees: r what it comes to, Z how its value lies, Q what is wanted -/
def Post {α β : Type} (K : Frag) (mg : Str → Option Value) (W : WX) (S0 S : List Addr) (σ : Sg) (H : Hp) (Z : List Addr → Hp → M → α → β → Prop) (r : Option (Res α × M)) (Q : β → Hp → Prop) : Prop :=
  match r with
  | none => False
  | some (.ok a, μ') => ∀ S' H' b, Gr S H S' H' → Z S' H' μ' a b → Q b H'
  | some (.exn e, μ') => ∀ S' H' cls dc, Gr S H S' H' → R K S0 S' H' σ μ' → ExR K mg (S0 ++ S') cls dc H' e → W cls dc σ H'
/-- frozen values -/
def ZF (K : Frag) (S0 : List Addr) (σ : Sg) : List Addr → Hp → M → D → V → Prop := fun S H μ d v => R K S0 S H σ μ ∧ Rep K (mask H (S0 ++ S)) d v
def ZFs (K : Frag) (S0 : List Addr) (σ : Sg) : List Addr → Hp → M → List D → List V → Prop := fun S H μ ds vs => R K S0 S H σ μ ∧ Reps K (mask H (S0 ++ S)) ds vs
def ZB (K : Frag) (S0 : List Addr) (σ : Sg) : List Addr → Hp → M → Bool → Bool → Prop := fun S H μ a b => R K S0 S H σ μ ∧ a = b
def ZI (K : Frag) (S0 : List Addr) (σ : Sg) : List Addr → Hp → M → Option Int → Option Int → Prop := fun S H μ a b => R K S0 S H σ μ ∧ a = b
/-- owned values -/
def ZO (K : Frag) (S0 : List Addr) (σ : Sg) : List Addr → Hp → M → (D × Kd) → V → Prop := fun S H μ d v => R K S0 S H (some v :: σ) (some d :: μ)

theorem Post.grow {α β : Type} {K : Frag} {mg : Str → Option Value} {W : WX} {S0 S S1 : List Addr} {σ : Sg} {H H1 : Hp} {Z : List Addr → Hp → M → α → β → Prop} {r : Option (Res α × M)} {Q : β → Hp → Prop} (g : Gr S H S1 H1)
    (h : Post K mg W S0 S σ H Z r Q) : Post K mg W S0 S1 σ H1 Z r Q := by
  match r, h with
  | none, h => exact h
  | some (.ok a, μ'), h => exact fun S' H' b g' => h S' H' b (g.trans g')
  | some (.exn e, μ'), h => exact fun S' H' cls dc g' => h S' H' cls dc (g.trans g')
theorem Post.bnd {α β α' β' : Type} {K : Frag} {mg : Str → Option Value} {W : WX} {S0 S : List Addr} {σ : Sg} {H : Hp} {Z : List Addr → Hp → M → α → β → Prop} {Z' : List Addr → Hp → M → α' → β' → Prop} {a : EV α'} {f : α' → EV α} {μ : M} {Q : β → Hp → Prop} {Q' : β' → Hp → Prop}
    (h : Post K mg W S0 S σ H Z (Mn.bnd a f μ) Q)
    (k : ∀ S1 H1 μ1 x y, Gr S H S1 H1 → Z' S1 H1 μ1 x y → Post K mg W S0 S1 σ H1 Z (f x μ1) Q → Q' y H1) : Post K mg W S0 S σ H Z' (a μ) Q' := by
  rw [bnd_def] at h
  unfold Rs at h
  match q : a μ, h with
  | none, h => exact h
  | some (.ok x, μ'), h => exact fun S' H' b g z => k S' H' μ' x b g z (h.grow g)
  | some (.exn e, μ'), h => exact h

variable {X : Cx} {W : WX}
def tF (K : Frag) (mg : Str → Option Value) (W : WX) (m : EV D) : TE := fun σ H Q => ∃ S0 S μ, R K S0 S H σ μ ∧ Post K mg W S0 S σ H (ZF K S0 σ) (m μ) Q
def tO (K : Frag) (mg : Str → Option Value) (W : WX) (m : EV (D × Kd)) : TE := fun σ H Q => ∃ S0 S μ, R K S0 S H σ μ ∧ Post K mg W S0 S σ H (ZO K S0 σ) (m μ) Q
def tA (K : Frag) (mg : Str → Option Value) (W : WX) (m : EV (List D)) : TA := fun σ H Q => ∃ S0 S μ, R K S0 S H σ μ ∧ Post K mg W S0 S σ H (ZFs K S0 σ) (m μ) Q
def tT (K : Frag) (mg : Str → Option Value) (W : WX) (m : EV Bool) : TT := fun σ H Q => ∃ S0 S μ, R K S0 S H σ μ ∧ Post K mg W S0 S σ H (ZB K S0 σ) (m μ) Q
/-- the judgements -/
abbrev JF (X : Cx) (W : WX) (e : Expr) (m : EV D) : Prop := PE X e (tF X.K X.mg W m)
abbrev JO (X : Cx) (W : WX) (e : Expr) (m : EV (D × Kd)) : Prop := PE X e (tO X.K X.mg W m)
abbrev JA (X : Cx) (W : WX) (es : List Expr) (m : EV (List D)) : Prop := PA X es (tA X.K X.mg W m)
abbrev JT (X : Cx) (W : WX) (e : Expr) (m : EV Bool) : Prop := PT X e (tT X.K X.mg W m)
theorem pe_imp {e : Expr} {t t' : TE} (h : PE X e t) (i : ∀ σ H Q, t' σ H Q → t σ H Q) : PE X e t' := ⟨fun pins s σ H Q I q => h.run pins s σ H Q I (i σ H Q q)⟩
theorem pt_imp {e : Expr} {t t' : TT} (h : PT X e t) (i : ∀ σ H Q, t' σ H Q → t σ H Q) : PT X e t' := ⟨fun pins s σ H Q I q => h.run pins s σ H Q I (i σ H Q q)⟩
theorem pw_imp {e : Expr} {t t' : TT} (h : PW X e t) (i : ∀ σ H Q, t' σ H Q → t σ H Q) : PW X e t' := ⟨fun w pins s σ H Q I q => h.run w pins s σ H Q I (i σ H Q q)⟩
theorem pa_imp {es : List Expr} {t t' : TA} (h : PA X es t) (i : ∀ σ H Q, t' σ H Q → t σ H Q) : PA X es t' := ⟨fun pos pins s σ H Q I q => h.run pos pins s σ H Q I (i σ H Q q)⟩
theorem ps_imp {st : Stmt} {t t' : TS} (h : PS X st t) (i : ∀ D σ H, t' D σ H → t D σ H) : PS X st t' := ⟨fun pins s σ H D I q => h.run pins s σ H D I (i D σ H q)⟩
theorem pss_imp {st : List Stmt} {t t' : TS} (h : PSs X st t) (i : ∀ D σ H, t' D σ H → t D σ H) : PSs X st t' := ⟨fun pins s σ H D I q => h.run pins s σ H D I (i D σ H q)⟩
end Mn
end
section
/-! Mn: slots taken and put; expressions. -/
namespace Mn
open PySem PySem.Spec PyProof.Rows L2

theorem Sls.len {f : Kd → D → V → List Addr → Prop} : ∀ {σ : List (Option V)} {μ : M} {S : List Addr}, Sls f σ μ S → σ.length = μ.length
  | [], [], _, _ => rfl
  | _ :: σ, none :: μ, S, h => by
    have q : Sls f σ μ S := h
    rw [List.length_cons, List.length_cons, q.len]
  | _ :: _, some (d, k) :: _, _, h => by
    obtain ⟨v, S1, S2, e1, e2, h1, h2⟩ := h
    rw [List.length_cons, List.length_cons, h2.len]
  | [], _ :: _, _, h => h.elim
  | _ :: _, [], _, h => h.elim
/-- a slot's value is taken out -/
theorem Sls.take {f : Kd → D → V → List Addr → Prop} {d : D} {k : Kd} : ∀ {σ : List (Option V)} {μ : M} {S : List Addr} {i : Nat}, Sls f σ μ S → μ[i]? = some (some (d, k)) →
    ∃ v S1 S2, σ[i]? = some (some v) ∧ f k d v S1 ∧ Sls f σ (μ.set i none) S2 ∧ S.Perm (S1 ++ S2)
  | [], [], _, _, _, e => by simp at e
  | _ :: σ, none :: μ, S, 0, h, e => by simp at e
  | x :: σ, none :: μ, S, i + 1, h, e => by
    have q : Sls f σ μ S := h
    obtain ⟨v, S1, S2, e1, h1, h2, p⟩ := q.take (i := i) (by simpa using e)
    exact ⟨v, S1, S2, by simpa using e1, h1, h2, p⟩
  | x :: σ, some (d', k') :: μ, S, 0, h, e => by
    obtain ⟨v, S1, S2, e1, e2, h1, h2⟩ := h
    have e' : (d', k') = (d, k) := by simpa using e
    cases e'
    subst e1
    exact ⟨v, S1, S2, rfl, h1, h2, by rw [e2]⟩
  | x :: σ, some (d', k') :: μ, S, i + 1, h, e => by
    obtain ⟨v, S1, S2, e1, e2, h1, h2⟩ := h
    obtain ⟨u, T1, T2, q1, q2, q3, p⟩ := h2.take (i := i) (by simpa using e)
    refine ⟨u, T1, S1 ++ T2, by simpa using q1, q2, ⟨v, S1, T2, e1, rfl, h1, q3⟩, ?_⟩
    rw [e2]
    refine (List.Perm.append_left S1 p).trans ?_
    rw [← List.append_assoc, ← List.append_assoc]
    exact List.Perm.append_right T2 List.perm_append_comm
  | [], _ :: _, _, _, h, _ => h.elim
  | _ :: _, [], _, _, h, _ => h.elim
/-- a value is put into a slot -/
theorem Sls.put {f : Kd → D → V → List Addr → Prop} {d : D} {k : Kd} {v : V} {S1 : List Addr} (hv : f k d v S1) : ∀ {σ : List (Option V)} {μ : M} {S2 : List Addr} {i : Nat}, i < σ.length → Sls f σ (μ.set i none) S2 →
    ∃ S, Sls f (σ.set i (some v)) (μ.set i (some (d, k))) S ∧ S.Perm (S1 ++ S2)
  | [], _, _, _, hi, h => by simp at hi
  | x :: σ, [], S2, i, hi, h => h.elim
  | x :: σ, y :: μ, S2, 0, hi, h => by
    have q : Sls f σ μ S2 := h
    exact ⟨S1 ++ S2, ⟨v, S1, S2, rfl, rfl, hv, q⟩, List.Perm.refl _⟩
  | x :: σ, none :: μ, S2, i + 1, hi, h => by
    have q : Sls f σ (μ.set i none) S2 := h
    obtain ⟨S, h1, p⟩ := q.put hv (i := i) (by simpa using hi)
    exact ⟨S, h1, p⟩
  | x :: σ, some (d', k') :: μ, S2, i + 1, hi, h => by
    have q : Sls f (x :: σ) (some (d', k') :: μ.set i none) S2 := h
    obtain ⟨u, T1, T2, e1, e2, h1, h2⟩ := q
    obtain ⟨S, h3, p⟩ := h2.put hv (i := i) (by simpa using hi)
    refine ⟨T1 ++ S, ⟨u, T1, S, e1, rfl, h1, h3⟩, ?_⟩
    rw [e2]
    refine (List.Perm.append_left T1 p).trans ?_
    rw [← List.append_assoc, ← List.append_assoc]
    exact List.Perm.append_right T2 List.perm_append_comm
theorem Sls.forget {f : Kd → D → V → List Addr → Prop} : ∀ {σ : List (Option V)} {μ : M} {S : List Addr} {i : Nat}, Sls f σ μ S → ∃ S', Sls f σ (μ.set i none) S' ∧ S'.Sublist S
  | [], [], S, _, h => ⟨S, h, List.Sublist.refl _⟩
  | _ :: σ, none :: μ, S, 0, h => ⟨S, h, List.Sublist.refl _⟩
  | x :: σ, none :: μ, S, i + 1, h => by
    have q : Sls f σ μ S := h
    obtain ⟨S', h1, p⟩ := q.forget (i := i)
    exact ⟨S', h1, p⟩
  | x :: σ, some (d', k') :: μ, S, 0, h => by
    obtain ⟨v, S1, S2, e1, e2, h1, h2⟩ := h
    exact ⟨S2, h2, by rw [e2]; exact List.sublist_append_right _ _⟩
  | x :: σ, some (d', k') :: μ, S, i + 1, h => by
    obtain ⟨v, S1, S2, e1, e2, h1, h2⟩ := h
    obtain ⟨S', h3, p⟩ := h2.forget (i := i)
    exact ⟨S1 ++ S', ⟨v, S1, S', e1, rfl, h1, h3⟩, by rw [e2]; exact List.Sublist.append_left p S1⟩
  | [], _ :: _, _, _, h => h.elim
  | _ :: _, [], _, _, h => h.elim
/-- the same items at other slots' values where nothing is told -/
theorem Sls.forgetV {f : Kd → D → V → List Addr → Prop} {y : Option V} : ∀ {σ : List (Option V)} {μ : M} {S : List Addr} {i : Nat}, Sls f σ (μ.set i none) S → Sls f (σ.set i y) (μ.set i none) S
  | [], [], S, _, h => h
  | _ :: σ, z :: μ, S, 0, h => h
  | x :: σ, none :: μ, S, i + 1, h => by
    have q : Sls f σ (μ.set i none) S := h
    exact q.forgetV
  | x :: σ, some (d', k') :: μ, S, i + 1, h => by
    have q : Sls f (x :: σ) (some (d', k') :: μ.set i none) S := h
    obtain ⟨v, S1, S2, e1, e2, h1, h2⟩ := q
    exact ⟨v, S1, S2, e1, e2, h1, h2.forgetV⟩
  | [], _ :: _, _, _, h => h
  | _ :: _, [], _, _, h => h.elim

section
variable {K : Frag} {S0 S S' : List Addr} {H H' : Hp} {σ : List (Option V)} {μ : M} {d : D} {k : Kd} {v : V} {i : Nat}
theorem mask_sub (h : ∀ a ∈ S', a ∈ S) : Ex (mask H (S0 ++ S)) (mask H (S0 ++ S')) := mask_mono fun a o n e => ⟨fun z => by
  rcases List.mem_append.mp z with z | z
  · exact n (List.mem_append_left _ z)
  · exact n (List.mem_append_right _ (h a z)), e⟩
/-- less is owned -/
theorem R.shrink (r : R K S0 S H σ μ) {σ' : List (Option V)} {μ' : M} (hs : Sls (own K (S0 ++ S) H) σ' μ' S') (sub : ∀ a ∈ S', a ∈ S) (nd : S'.Nodup) : R K S0 S' H σ' μ' where
  t0 := r.t0
  dis := fun a ha => r.dis a (sub a ha)
  nd := nd
  sl := hs.mono fun k d v S1 _ q => q.mono (mask_sub sub) fun _ _ => rfl
theorem gr_sub (sub : ∀ a ∈ S', a ∈ S) : Gr S H S' H := ⟨fun _ _ h _ => h, fun a ha => .inl (sub a ha)⟩
/-- what is frozen there may be known in more -/
theorem Own.frozen (h : own K (S0 ++ S) H k d v S') (sub : ∀ a ∈ S', a ∈ S) (r : R K S0 S H σ μ) {T : List Addr} (hT : ∀ a ∈ T, a ∈ S ∧ a ∉ S') : Rep K (mask H (S0 ++ T)) d v :=
  h.rep (mask_sub fun a ha => (hT a ha).1) fun a ha o e => mask_some.mpr ⟨fun z => by
    rcases List.mem_append.mp z with z | z
    · exact r.dis a (sub a ha) z
    · exact (hT a z).2 ha, e⟩
/-- a slot is read: it is frozen from then on -/
theorem R.read (r : R K S0 S H σ μ) (h : μ[i]? = some (some (d, k))) : ∃ v S', σ[i]? = some (some v) ∧ (∀ a ∈ S', a ∈ S) ∧ R K S0 S' H σ (μ.set i (some (d, .z))) ∧ Rep K (mask H (S0 ++ S')) d v := by
  obtain ⟨v, S1, S2, e1, h1, h2, p⟩ := r.sl.take h
  have sub1 : ∀ a ∈ S1, a ∈ S := fun a ha => p.mem_iff.mpr (List.mem_append_left _ ha)
  have sub2 : ∀ a ∈ S2, a ∈ S := fun a ha => p.mem_iff.mpr (List.mem_append_right _ ha)
  have nd : (S1 ++ S2).Nodup := p.nodup_iff.mp r.nd
  have dj : ∀ a ∈ S2, a ∉ S1 := fun a ha hb => (List.nodup_append.mp nd).2.2 a hb a ha rfl
  have fr : Rep K (mask H (S0 ++ S2)) d v := Own.frozen h1 sub1 r fun a ha => ⟨sub2 a ha, dj a ha⟩
  have hl : i < σ.length := (List.getElem?_eq_some_iff.mp e1).1
  have hs2 : Sls (own K (S0 ++ S2) H) σ (μ.set i none) S2 := h2.mono fun k d v S1 _ q => q.mono (mask_sub sub2) fun _ _ => rfl
  obtain ⟨S', h3, p3⟩ := Sls.put (f := own K (S0 ++ S2) H) (k := Kd.z) (d := d) (v := v) (S1 := []) ⟨rfl, fr⟩ hl hs2
  have eσ : σ.set i (some v) = σ := by
    apply List.ext_getElem?
    intro j
    by_cases hj : j = i
    · subst hj
      rw [List.getElem?_set_self hl, e1]
    · rw [List.getElem?_set_ne (Ne.symm hj)]
  rw [eσ] at h3
  have p4 : S'.Perm S2 := by simpa using p3
  have m4 : ∀ a, a ∈ S' ↔ a ∈ S2 := fun a => p4.mem_iff
  refine ⟨v, S', e1, fun a ha => sub2 a ((m4 a).mp ha), ⟨r.t0, fun a ha => r.dis a (sub2 a ((m4 a).mp ha)), p4.nodup_iff.mpr (List.nodup_append.mp nd).2.1, h3.mono fun k d v S1 _ q => q.mono (mask_sub fun a ha => (m4 a).mp ha) fun _ _ => rfl⟩, fr.ex (mask_sub fun a ha => (m4 a).mp ha)⟩
theorem R.read0 (r : R K S0 S H σ μ) (h : μ[i]? = some (some (d, .z))) : ∃ v, σ[i]? = some (some v) ∧ Rep K (mask H (S0 ++ S)) d v := by
  obtain ⟨v, S1, S2, e1, h1, h2, p⟩ := r.sl.take h
  exact ⟨v, e1, h1.2⟩
/-- a value ahead of the slots is stored -/
theorem R.store (r : R K S0 S H (some v :: σ) (some (d, k) :: μ)) (hi : i < σ.length) : ∃ S', (∀ a ∈ S', a ∈ S) ∧ R K S0 S' H (σ.set i (some v)) (μ.set i (some (d, k))) := by
  obtain ⟨v', S1, S2, e1, e2, h1, h2⟩ := r.sl
  cases e1
  have nd := r.nd
  rw [e2] at nd
  obtain ⟨T, h3, sub3⟩ := h2.forget (i := i)
  obtain ⟨S', h4, p⟩ := Sls.put h1 hi h3
  have nd2 : (S1 ++ T).Nodup := (List.Sublist.append_left sub3 S1).nodup nd
  have mm : ∀ a ∈ S', a ∈ S := fun a ha => by
    rw [e2]
    rcases List.mem_append.mp (p.mem_iff.mp ha) with z | z
    · exact List.mem_append_left _ z
    · exact List.mem_append_right _ (sub3.subset z)
  exact ⟨S', mm, r.shrink h4 mm (p.nodup_iff.mpr nd2)⟩
/-- a frozen value ahead -/
theorem R.push (r : R K S0 S H σ μ) (h : Rep K (mask H (S0 ++ S)) d v) : R K S0 S H (some v :: σ) (some (d, .z) :: μ) :=
  ⟨r.t0, r.dis, r.nd, ⟨v, [], S, rfl, rfl, ⟨rfl, h⟩, r.sl⟩⟩
/-- the value ahead is frozen -/
theorem R.pop (r : R K S0 S H (some v :: σ) (some (d, k) :: μ)) : ∃ S', (∀ a ∈ S', a ∈ S) ∧ R K S0 S' H σ μ ∧ Rep K (mask H (S0 ++ S')) d v := by
  obtain ⟨v', S1, S2, e1, e2, h1, h2⟩ := id r.sl
  cases e1
  have nd := r.nd
  rw [e2] at nd
  have sub1 : ∀ a ∈ S1, a ∈ S := fun a ha => by rw [e2]; exact List.mem_append_left _ ha
  have sub2 : ∀ a ∈ S2, a ∈ S := fun a ha => by rw [e2]; exact List.mem_append_right _ ha
  have dj : ∀ a ∈ S2, a ∉ S1 := fun a ha hb => (List.nodup_append.mp nd).2.2 a hb a ha rfl
  exact ⟨S2, sub2, r.shrink h2 sub2 (List.nodup_append.mp nd).2.1, Own.frozen h1 sub1 r fun a ha => ⟨sub2 a ha, dj a ha⟩⟩
end

/-! ### names, constants -/
section
variable {X : Cx} {W : WX} {a b c e : Expr} {ma mb mc m : EV D} {pos p : Pos}
/-- the value in a slot; it is frozen -/
def rd (i : Nat) (μ : M) : Option (Option (D × Kd)) → Option (Res D × M)
  | some (some (d, .z)) => some (.ok d, μ)
  | some (some (d, .s _)) => some (.ok d, μ.set i (some (d, .z)))
  | _ => none
def rdv (i : Nat) : EV D := fun μ => rd i μ μ[i]?
theorem j_var {i : Nat} {x : Str} (hN : X.N[i]? = some x) (hv : Vis X.env.scope x) (hd : (x == ("__debug__" : Str)) = false := by decide) (hcd : (x == ("__classdict__" : Str)) = false := by decide) : JF X W (.Name x pos) (rdv i) := by
  refine pe_imp (pe_var hN hv hd hcd) fun σ H Q h => ?_
  obtain ⟨S0, S, μ, r, h⟩ := h
  unfold rdv at h
  cases q : μ[i]? with
  | none =>
    rw [q] at h
    exact h.elim
  | some o =>
    rw [q] at h
    cases o with
    | none => exact h.elim
    | some dk =>
      obtain ⟨d, k⟩ := dk
      cases k with
      | z =>
        obtain ⟨v, e1, p1⟩ := r.read0 q
        exact ⟨v, e1, h S H v Gr.refl ⟨r, p1⟩⟩
      | s k =>
        obtain ⟨v, S', e1, sub, r', p1⟩ := r.read q
        exact ⟨v, e1, h S' H v (gr_sub sub) ⟨r', p1⟩⟩
theorem j_lit {d : D} {v : V} (h : PE X e (tC v)) (hr : ∀ F, Rep X.K F d v) : JF X W e (giv d) := by
  refine pe_imp h fun σ H Q h => ?_
  obtain ⟨S0, S, μ, r, h⟩ := h
  exact h S H v Gr.refl ⟨r, hr _⟩
theorem j_int {i : Int} {j : Nat} : JF X W (.Constant (.int i) j pos) (giv (.int i)) := j_lit pe_int fun _ => rfl
theorem j_bl {b : Bool} {j : Nat} : JF X W (.Constant (.bool b) j pos) (giv (.bl b)) := j_lit pe_bl fun _ => rfl
theorem j_non {j : Nat} : JF X W (.Constant .none j pos) (giv .non) := j_lit pe_non fun _ => rfl
theorem j_str {x : Str} {cs : List Nat} {j : Nat} (hx : x = ⟨cs.toArray⟩) : JF X W (.Constant (.str x) j pos) (giv (.str cs)) := j_lit pe_str fun _ => by rw [hx]; rfl
/-- a module's constant -/
theorem j_glob {x : Str} {d : D} {v : V} {u : Value} (hg : Gl X x) (hm : X.mg x = some u) (r : RelV v u) (hr : ∀ F, Rep X.K F d v) (hd : (x == ("__debug__" : Str)) = false := by decide) : JF X W (.Name x pos) (giv d) := j_lit (pe_glob hg hm r hd) hr

/-! ### operations by values -/
/-- r, where its values lie as trees, is g -/
def Op2 (K : Frag) (r : R2) (g : D → D → Option D) : Prop := ∀ (S : List Addr) (H : Hp) (d e c : D) (x y : V) (Q : VK), (∀ a ∈ S, H a ≠ none) → Rep K (mask H S) d x → Rep K (mask H S) e y → g d e = some c →
  (∀ v H', Ex H H' → Rep K (mask H' S) c v → Q v H') → r x y H Q
def Op1 (K : Frag) (r : V → Hp → VK → Prop) (g : D → Option D) : Prop := ∀ (S : List Addr) (H : Hp) (d c : D) (x : V) (Q : VK), (∀ a ∈ S, H a ≠ none) → Rep K (mask H S) d x → g d = some c →
  (∀ v H', Ex H H' → Rep K (mask H' S) c v → Q v H') → r x H Q
def OpN (K : Frag) (r : List V → Hp → VK → Prop) (g : List D → Option D) : Prop := ∀ (S : List Addr) (H : Hp) (ds : List D) (c : D) (xs : List V) (Q : VK), (∀ a ∈ S, H a ≠ none) → Reps K (mask H S) ds xs → g ds = some c →
  (∀ v H', Ex H H' → Rep K (mask H' S) c v → Q v H') → r xs H Q
def m1 (g : D → Option D) (a : EV D) : EV D := bnd a fun x => opt (g x)
def m2 (g : D → D → Option D) (a b : EV D) : EV D := bnd a fun x => bnd b fun y => opt (g x y)
def mN (g : List D → Option D) (a : EV (List D)) : EV D := bnd a fun x => opt (g x)
theorem op2_run {K : Frag} {mg : Str → Option Value} {r : R2} {g : D → D → Option D} (hg : Op2 K r g) {σ : Sg} {H : Hp} {Q : VK} (h : tF K mg W (m2 g ma mb) σ H Q) : tOp r (tF K mg W ma) (tF K mg W mb) σ H Q := by
  obtain ⟨S0, S, μ, rr, h⟩ := h
  refine ⟨S0, S, μ, rr, Post.bnd (Z' := ZF K S0 σ) h fun S1 H1 μ1 d v g1 z1 h1 => ?_⟩
  refine ⟨S0, S1, μ1, z1.1, Post.bnd (Z' := ZF K S0 σ) h1 fun S2 H2 μ2 e u g2 z2 h2 => ?_⟩
  cases q : g d e with
  | none =>
    rw [q] at h2
    exact h2.elim
  | some c =>
    rw [q] at h2
    exact hg (S0 ++ S2) H2 d e c v u Q z2.1.tr (z1.2.ex g2.mask) z2.2 q fun w H3 ex p => h2 S2 H3 w (Gr.ex ex) ⟨z2.1.ex ex, p⟩
theorem j_op {op : Operator} {r : R2} {g : D → D → Option D} (ho : OpR X (binaryOp op) r) (hg : Op2 X.K r g) (ha : JF X W a ma) (hb : JF X W b mb) : JF X W (.BinOp a op b pos) (m2 g ma mb) := pe_imp (pe_op ho ha hb) fun σ H Q h => op2_run hg h
theorem j_cmp {op : CmpOp} {r : R2} {g : D → D → Option D} (ho : OpR X (compareOp op) r) (hg : Op2 X.K r g) (ha : JF X W a ma) (hb : JF X W b mb) (hm : behindInMarks op b = false) : JF X W (.Compare a [op] [b] pos) (m2 g ma mb) := pe_imp (pe_cmpR ho ha hb hm) fun σ H Q h => op2_run hg h
theorem j_un {op : UnaryOp} {r : V → Hp → VK → Prop} {g : D → Option D} (ho : UnR X (unaryOp op) r) (hg : Op1 X.K r g) (ha : JF X W a ma) : JF X W (.UnaryOp op a pos) (m1 g ma) := by
  refine pe_imp (pe_un ho ha) fun σ H Q h => ?_
  obtain ⟨S0, S, μ, rr, h⟩ := h
  refine ⟨S0, S, μ, rr, Post.bnd (Z' := ZF X.K S0 σ) h fun S1 H1 μ1 d v g1 z1 h1 => ?_⟩
  cases q : g d with
  | none =>
    rw [q] at h1
    exact h1.elim
  | some c =>
    rw [q] at h1
    exact hg (S0 ++ S1) H1 d c v Q z1.1.tr z1.2 q fun w H3 ex p => h1 S1 H3 w (Gr.ex ex) ⟨z1.1.ex ex, p⟩
theorem j_ix {r : R2} {g : D → D → Option D} (ho : IxR X r) (hg : Op2 X.K r g) (ha : JF X W a ma) (hb : JF X W b mb) (hs : PlainIx b) : JF X W (.Subscript a b pos) (m2 g ma mb) := pe_imp (pe_ix ho ha hb hs) fun σ H Q h => op2_run hg h
/-- a <= b < c -/
def vB0 (a b : EV D) : D → EV D
  | .bl true => a
  | .bl false => b
  | _ => fun _ => none
def mCh (g g' : D → D → Option D) (a b c : EV D) : EV D := bnd a fun x => bnd b fun y => bnd (opt (g x y)) (vB0 (bnd c fun w => opt (g' y w)) (giv (.bl false)))
theorem chain_run {K : Frag} {mg : Str → Option Value} {r r' : R2} {g g' : D → D → Option D} (hg : Op2 K r g) (hg' : Op2 K r' g') {σ : Sg} {H : Hp} {Q : VK} (h : tF K mg W (mCh g g' ma mb mc) σ H Q) : tChain r r' (tF K mg W ma) (tF K mg W mb) (tF K mg W mc) σ H Q := by
  obtain ⟨S0, S, μ, rr, h⟩ := h
  refine ⟨S0, S, μ, rr, Post.bnd (Z' := ZF K S0 σ) h fun S1 H1 μ1 d v g1 z1 h1 => ?_⟩
  refine ⟨S0, S1, μ1, z1.1, Post.bnd (Z' := ZF K S0 σ) h1 fun S2 H2 μ2 e u g2 z2 h2 => ?_⟩
  cases q : g d e with
  | none =>
    rw [q] at h2
    exact h2.elim
  | some c =>
    rw [q] at h2
    refine hg (S0 ++ S2) H2 d e c v u _ z2.1.tr (z1.2.ex g2.mask) z2.2 q fun w H3 ex p => ?_
    cases c with
    | bl k =>
      refine ⟨k, p, ?_⟩
      cases k with
      | true =>
        rw [if_pos rfl]
        have h3 : Post K mg W S0 S2 σ H2 (ZF K S0 σ) (bnd mc (fun w => opt (g' e w)) μ2) Q := h2
        refine ⟨S0, S2, μ2, z2.1.ex ex, Post.bnd (Z' := ZF K S0 σ) (h3.grow (Gr.ex ex)) fun S4 H4 μ4 d4 v4 g4 z4 h4 => ?_⟩
        cases q' : g' e d4 with
        | none =>
          rw [q'] at h4
          exact h4.elim
        | some c' =>
          rw [q'] at h4
          exact hg' (S0 ++ S4) H4 e d4 c' u v4 Q z4.1.tr ((z2.2.ex (Gr.ex ex).mask).ex g4.mask) z4.2 q' fun w H5 ex5 p5 => h4 S4 H5 w (Gr.ex ex5) ⟨z4.1.ex ex5, p5⟩
      | false =>
        rw [if_neg Bool.false_ne_true]
        exact h2 S2 H3 _ (Gr.ex ex) ⟨z2.1.ex ex, rfl⟩
    | _ => exact h2.elim

theorem j_chain {op op' : CmpOp} {r r' : R2} {g g' : D → D → Option D} (ho : OpR X (compareOp op) r) (ho' : OpR X (compareOp op') r') (hg : Op2 X.K r g) (hg' : Op2 X.K r' g') (ha : JF X W a ma) (hb : JF X W b mb) (hc : JF X W c mc)
    (hm : lastMarks [op, op'] [b, c] = false := by with_unfolding_all rfl) : JF X W (.Compare a [op, op'] [b, c] pos) (mCh g g' ma mb mc) :=
  pe_imp (pe_chain ho ho' ha hb hc hm) fun σ H Q h => chain_run hg hg' h

/-! ### tests -/
def truth : D → Option Bool
  | .non => some false
  | .bl b => some b
  | .int i => some (i != 0)
  | .str x => if x.length ≤ 16777216 then some (!x.isEmpty) else none
  | .tup xs => some (!xs.isEmpty)
  | .lst xs => some (!xs.isEmpty)
  | .dct _ _ => none
def mT (a : EV D) : EV Bool := bnd a fun x => opt (truth x)
def asB : D → Option Bool
  | .bl b => some b
  | _ => none
def mB (a : EV D) : EV Bool := bnd a fun x => opt (asB x)
theorem reps_empty {K : Frag} {F : Hp} {ds : List D} {vs : List V} (h : Reps K F ds vs) : (!ds.isEmpty) = !vs.isEmpty := by
  cases ds with
  | nil =>
    have e : vs = [] := h
    rw [e]
    rfl
  | cons d r =>
    obtain ⟨v, r', e, _⟩ := h
    rw [e]
    rfl
theorem truth_ok {K : Frag} {S : List Addr} {H : Hp} {d : D} {v : V} {b : Bool} (h : Rep K (mask H S) d v) (q : truth d = some b) : TruV K v H b := by
  cases d with
  | non =>
    have e : v = .non := h
    subst e
    cases q
    rfl
  | bl c =>
    have e : v = .bl c := h
    subst e
    cases q
    rfl
  | int i =>
    have e : v = .int i := h
    subst e
    cases q
    rfl
  | str x =>
    have e : v = .str ⟨x.toArray⟩ := h
    subst e
    have q' : (if x.length ≤ 16777216 then some (!x.isEmpty) else none) = some b := q
    split at q'
    · rename_i hl
      cases q'
      refine ⟨?_, ?_⟩
      · show (x.toArray).size ≤ sizeLine
        rw [sizeLine_eq]
        simpa using hl
      · show (!x.isEmpty) = (((x.toArray.size : Nat) : Int) != 0)
        cases x with
        | nil => rfl
        | cons c r =>
          have : ¬ ((((c :: r).toArray.size : Nat) : Int) = 0) := by simp; omega
          show true = !((((c :: r).toArray.size : Nat) : Int) == 0)
          rw [beq_eq_false_iff_ne.mpr this]
          rfl
    · cases q'
  | tup ds =>
    obtain ⟨a, vs, e1, h1, h2⟩ := h
    subst e1
    cases q
    exact .inr (.inl ⟨vs, ex_t mask_ex h1, reps_empty h2⟩)
  | lst ds =>
    obtain ⟨a, vs, e1, h1, h2⟩ := h
    subst e1
    cases q
    exact .inl ⟨vs, ex_l mask_ex h1, reps_empty h2⟩
  | dct _ _ => cases q
theorem jt_truth (ha : JF X W a ma) (he : ∀ whole, isTrue a X.env whole = (do let v ← whole; standAt a.pos; holding [v] (truthy v)) := by intro _; rfl) : JT X W a (mT ma) := by
  refine pt_imp (pt_truth ha he) fun σ H Q h => ?_
  obtain ⟨S0, S, μ, rr, h⟩ := h
  refine ⟨S0, S, μ, rr, Post.bnd (Z' := ZF X.K S0 σ) h fun S1 H1 μ1 d v g1 z1 h1 => ?_⟩
  cases q : truth d with
  | none =>
    rw [q] at h1
    exact h1.elim
  | some b =>
    rw [q] at h1
    exact ⟨b, truth_ok z1.2 q, h1 S1 H1 b Gr.refl ⟨z1.1, rfl⟩⟩
theorem asB_ok {K : Frag} {F : Hp} {d : D} {v : V} {b : Bool} (h : Rep K F d v) (q : asB d = some b) : v = .bl b := by
  cases d with
  | bl c =>
    cases q
    exact h
  | _ => cases q
theorem test_run {K : Frag} {mg : Str → Option Value} {σ : Sg} {H : Hp} {Q : Bool → Hp → Prop} (h : tT K mg W (mB ma) σ H Q) : tF K mg W ma σ H fun x H' => ∃ k, x = .bl k ∧ Q k H' := by
  obtain ⟨S0, S, μ, rr, h⟩ := h
  refine ⟨S0, S, μ, rr, Post.bnd (Z' := ZF K S0 σ) h fun S1 H1 μ1 d v g1 z1 h1 => ?_⟩
  cases q : asB d with
  | none =>
    rw [q] at h1
    exact h1.elim
  | some b =>
    rw [q] at h1
    exact ⟨b, asB_ok z1.2 q, h1 S1 H1 b Gr.refl ⟨z1.1, rfl⟩⟩
/-- a value that is a bool -/
theorem jt_val (ha : JF X W a ma) (he : ∀ whole, isTrue a X.env whole = (do let v ← whole; standAt a.pos; holding [v] (truthy v)) := by intro _; rfl) : JT X W a (mB ma) := pt_imp (pt_val ha he) fun σ H Q h => test_run h
theorem jt_cmp {op : CmpOp} {r : R2} {g : D → D → Option D} (ho : OpR X (compareOp op) r) (hg : Op2 X.K r g) (ha : JF X W a ma) (hb : JF X W b mb) (hm : behindInMarks op b = false) : JT X W (.Compare a [op] [b] pos) (mB (m2 g ma mb)) := by
  refine pt_imp (pt_cmpR ho ha hb hm) fun σ H Q h => ?_
  exact op2_run hg (test_run h)
theorem jt_not {mc : EV Bool} (ha : JT X W a mc) : JT X W (.UnaryOp .Not a pos) (bnd mc fun b => giv !b) := by
  refine pt_imp (pt_not ha) fun σ H Q h => ?_
  obtain ⟨S0, S, μ, rr, h⟩ := h
  refine ⟨S0, S, μ, rr, Post.bnd (Z' := ZB X.K S0 σ) h fun S1 H1 μ1 d v g1 z1 h1 => ?_⟩
  obtain ⟨z1, e⟩ := z1
  subst e
  exact h1 S1 H1 _ Gr.refl ⟨z1, rfl⟩
abbrev JW (X : Cx) (W : WX) (e : Expr) (m : EV Bool) : Prop := PW X e (tT X.K X.mg W m)
def mAnd (a b : EV Bool) : EV Bool := bnd a fun x => cond x b (giv false)
def mOr (a b : EV Bool) : EV Bool := bnd a fun x => cond x (giv true) b
variable {ta tb : EV Bool} {rest : List Expr}
theorem jw_and1 (ha : JT X W a ta) : JW X W (.BoolOp .And [a] pos) ta := pw_and1 ha
theorem jw_or1 (ha : JT X W a ta) : JW X W (.BoolOp .Or [a] pos) ta := pw_or1 ha
theorem jw_and (ha : JT X W a ta) (hb : JW X W (.BoolOp .And (b :: rest) pos) tb) : JW X W (.BoolOp .And (a :: b :: rest) pos) (mAnd ta tb) := by
  refine pw_imp (pw_and ha hb) fun σ H Q h => ?_
  obtain ⟨S0, S, μ, rr, h⟩ := h
  refine ⟨S0, S, μ, rr, Post.bnd (Z' := ZB X.K S0 σ) h fun S1 H1 μ1 d v g1 z1 h1 => ?_⟩
  obtain ⟨z1, e⟩ := z1
  subst e
  cases d with
  | true =>
    rw [if_pos rfl]
    exact ⟨S0, S1, μ1, z1, h1⟩
  | false =>
    rw [if_neg Bool.false_ne_true]
    exact h1 S1 H1 _ Gr.refl ⟨z1, rfl⟩
theorem jw_or (ha : JT X W a ta) (hb : JW X W (.BoolOp .Or (b :: rest) pos) tb) : JW X W (.BoolOp .Or (a :: b :: rest) pos) (mOr ta tb) := by
  refine pw_imp (pw_or ha hb) fun σ H Q h => ?_
  obtain ⟨S0, S, μ, rr, h⟩ := h
  refine ⟨S0, S, μ, rr, Post.bnd (Z' := ZB X.K S0 σ) h fun S1 H1 μ1 d v g1 z1 h1 => ?_⟩
  obtain ⟨z1, e⟩ := z1
  subst e
  cases d with
  | true =>
    rw [if_pos rfl]
    exact h1 S1 H1 _ Gr.refl ⟨z1, rfl⟩
  | false =>
    rw [if_neg Bool.false_ne_true]
    exact ⟨S0, S1, μ1, z1, h1⟩
theorem jt_w {mc : EV Bool} (h : JW X W a mc) : JT X W a mc := PW.pt h
/-! and, or, not as values: bools -/
def vB (a b : EV D) : D → EV D
  | .bl true => a
  | .bl false => b
  | _ => fun _ => none
def vAnd (a b : EV D) : EV D := bnd a (vB b (giv (.bl false)))
def vOr (a b : EV D) : EV D := bnd a (vB (giv (.bl true)) b)
def gNot : D → Option D
  | .bl b => some (.bl !b)
  | _ => none
def vNot (a : EV D) : EV D := m1 gNot a
theorem j_one {op : BoolOp} (ha : JF X W a ma) : JF X W (.BoolOp op [a] pos) ma := pe_one ha
theorem j_and (ha : JF X W a ma) (hb : JF X W (.BoolOp .And (b :: rest) pos) mb) : JF X W (.BoolOp .And (a :: b :: rest) pos) (vAnd ma mb) := by
  refine pe_imp (pe_and ha hb) fun σ H Q h => ?_
  obtain ⟨S0, S, μ, rr, h⟩ := h
  refine ⟨S0, S, μ, rr, Post.bnd (Z' := ZF X.K S0 σ) h fun S1 H1 μ1 d v g1 z1 h1 => ?_⟩
  cases d with
  | bl c =>
    refine ⟨c, z1.2, ?_⟩
    cases c with
    | true =>
      rw [if_pos rfl]
      exact ⟨S0, S1, μ1, z1.1, h1⟩
    | false =>
      rw [if_neg Bool.false_ne_true]
      exact h1 S1 H1 _ Gr.refl ⟨z1.1, rfl⟩
  | _ => exact h1.elim
theorem j_or (ha : JF X W a ma) (hb : JF X W (.BoolOp .Or (b :: rest) pos) mb) : JF X W (.BoolOp .Or (a :: b :: rest) pos) (vOr ma mb) := by
  refine pe_imp (pe_or ha hb) fun σ H Q h => ?_
  obtain ⟨S0, S, μ, rr, h⟩ := h
  refine ⟨S0, S, μ, rr, Post.bnd (Z' := ZF X.K S0 σ) h fun S1 H1 μ1 d v g1 z1 h1 => ?_⟩
  cases d with
  | bl c =>
    refine ⟨c, z1.2, ?_⟩
    cases c with
    | true =>
      rw [if_pos rfl]
      exact h1 S1 H1 _ Gr.refl ⟨z1.1, rfl⟩
    | false =>
      rw [if_neg Bool.false_ne_true]
      exact ⟨S0, S1, μ1, z1.1, h1⟩
  | _ => exact h1.elim
theorem j_not (ha : JF X W a ma) : JF X W (.UnaryOp .Not a pos) (vNot ma) := by
  refine pe_imp (pe_not ha) fun σ H Q h => ?_
  obtain ⟨S0, S, μ, rr, h⟩ := h
  refine ⟨S0, S, μ, rr, Post.bnd (Z' := ZF X.K S0 σ) h fun S1 H1 μ1 d v g1 z1 h1 => ?_⟩
  cases d with
  | bl c => exact ⟨c, z1.2, h1 S1 H1 _ Gr.refl ⟨z1.1, rfl⟩⟩
  | _ => exact h1.elim
def mIf {α : Type} (t : EV Bool) (a b : EV α) : EV α := bnd t fun x => cond x a b
theorem j_if {mt : EV Bool} (hc : JT X W c mt) (ha : JF X W a ma) (hb : JF X W b mb) : JF X W (.IfExp c a b pos) (mIf mt ma mb) := by
  refine pe_imp (pe_ifExp hc ha hb) fun σ H Q h => ?_
  obtain ⟨S0, S, μ, rr, h⟩ := h
  refine ⟨S0, S, μ, rr, Post.bnd (Z' := ZB X.K S0 σ) h fun S1 H1 μ1 d v g1 z1 h1 => ?_⟩
  obtain ⟨z1, e⟩ := z1
  subst e
  cases d with
  | true =>
    rw [if_pos rfl]
    exact ⟨S0, S1, μ1, z1, h1⟩
  | false =>
    rw [if_neg Bool.false_ne_true]
    exact ⟨S0, S1, μ1, z1, h1⟩

/-! ### arguments, displays, calls of what is built in -/
def aNil : EV (List D) := giv []
def aCons (a : EV D) (r : EV (List D)) : EV (List D) := bnd a fun x => bnd r fun xs => giv (x :: xs)
variable {es : List Expr} {mr : EV (List D)}
theorem ja_nil : JA X W [] aNil := by
  refine pa_imp pa_nil fun σ H Q h => ?_
  obtain ⟨S0, S, μ, rr, h⟩ := h
  exact h S H [] Gr.refl ⟨rr, Reps.nil⟩
theorem ja_cons (ha : JF X W e m) (hr : JA X W es mr) (hs : starEach (e :: es) X.env = (false, eval e X.env) :: starEach es X.env := by rfl) : JA X W (e :: es) (aCons m mr) := by
  refine pa_imp (pa_cons ha hr hs) fun σ H Q h => ?_
  obtain ⟨S0, S, μ, rr, h⟩ := h
  refine ⟨S0, S, μ, rr, Post.bnd (Z' := ZF X.K S0 σ) h fun S1 H1 μ1 d v g1 z1 h1 => ?_⟩
  refine ⟨S0, S1, μ1, z1.1, Post.bnd (Z' := ZFs X.K S0 σ) h1 fun S2 H2 μ2 e u g2 z2 h2 => ?_⟩
  exact h2 S2 H2 _ Gr.refl ⟨z2.1, Reps.cons (z1.2.ex g2.mask) z2.2⟩
theorem opN_run {K : Frag} {mg : Str → Option Value} {r : List V → Hp → VK → Prop} {g : List D → Option D} (hg : OpN K r g) {σ : Sg} {H : Hp} {Q : VK} (h : tF K mg W (mN g mr) σ H Q) : tA K mg W mr σ H fun vs H1 => r vs H1 Q := by
  obtain ⟨S0, S, μ, rr, h⟩ := h
  refine ⟨S0, S, μ, rr, Post.bnd (Z' := ZFs K S0 σ) h fun S1 H1 μ1 d v g1 z1 h1 => ?_⟩
  cases q : g d with
  | none =>
    rw [q] at h1
    exact h1.elim
  | some c =>
    rw [q] at h1
    exact hg (S0 ++ S1) H1 d c v Q z1.1.tr z1.2 q fun w H3 ex p => h1 S1 H3 w (Gr.ex ex) ⟨z1.1.ex ex, p⟩
variable {x : Str} {id T : String}
theorem j_callB {r : List V → Hp → VK → Prop} {g : List D → Option D} (hc : CallR X (.builtin id) r) (hg' : OpN X.K r g) (hg : Gl X x) (hm : X.mg x = none) (hv : bootBuiltins x = some (.builtin id)) (ha : JA X W (e :: es) mr) (hn : x ≠ "__name__" := by decide) (hdb : (x == ("__debug__" : Str)) = false := by decide)
    (he : starEach (e :: es) X.env = (false, eval e X.env) :: starEach es X.env := by rfl) (hpl : (backTo pos (starEach es X.env)).any (·.1) = false := by rfl) : JF X W (.Call (.Name x p) (e :: es) [] pos) (mN g mr) :=
  pe_imp (pe_callB hc hg hm hv ha hn hdb he hpl) fun σ H Q h => opN_run hg' h
theorem j_callTy {r : List V → Hp → VK → Prop} {g : List D → Option D} (hc : CallR X (.type T) r) (hg' : OpN X.K r g) (hg : Gl X x) (hm : X.mg x = none) (hv : bootBuiltins x = some (.type T)) (ha : JA X W (e :: es) mr) (hn : x ≠ "__name__" := by decide) (hdb : (x == ("__debug__" : Str)) = false := by decide)
    (he : starEach (e :: es) X.env = (false, eval e X.env) :: starEach es X.env := by rfl) (hpl : (backTo pos (starEach es X.env)).any (·.1) = false := by rfl) : JF X W (.Call (.Name x p) (e :: es) [] pos) (mN g mr) :=
  pe_imp (pe_callTy hc hg hm hv ha hn hdb he hpl) fun σ H Q h => opN_run hg' h
/-- a new object of frozen items -/
theorem mask_upd {H : Hp} {S : List Addr} {q : Addr} {o : HO} (hS : ∀ a ∈ S, H a ≠ none) (hq : H q = none) : mask (upd H q o) S q = some o := mask_some.mpr ⟨fun z => hS q z hq, upd_same⟩
theorem mask_new {H : Hp} {S : List Addr} {q : Addr} {o : HO} (hq : H q = none) : Ex (mask H S) (mask (upd H q o) S) := mask_mono fun a u n e => ⟨n, Ex.new hq a u e⟩
def lim (ds : List D) (d : D) : Option D := if ds.length ≤ 16777216 then some d else none
theorem j_tup {k : Nat} (h : JA X W es mr) : JF X W (.Tuple es k pos) (mN (fun ds => lim ds (.tup ds)) mr) := by
  refine pe_imp (pe_tup h) fun σ H Q h => ?_
  refine opN_run (r := fun xs H1 Q => xs.length ≤ sizeLine ∧ ∀ p, H1 p = none → Q (.ref p) (upd H1 p (.tup xs))) (fun S H ds c xs Q hS hr q k => ?_) h
  unfold lim at q
  split at q
  · rename_i hl
    cases q
    refine ⟨by rw [hr.length, sizeLine_eq]; exact hl, fun p hp => k _ _ (Ex.new hp) ⟨p, xs, rfl, .inl (.inl (mask_upd hS hp)), hr.ex (mask_new hp)⟩⟩
  · cases q
theorem j_lst (h : JA X W es mr) : JF X W (.List es pos) (mN (fun ds => lim ds (.lst ds)) mr) := by
  refine pe_imp (pe_lst h) fun σ H Q h => ?_
  refine opN_run (r := fun xs H1 Q => xs.length ≤ sizeLine ∧ ∀ p, H1 p = none → Q (.ref p) (upd H1 p (.lst xs))) (fun S H ds c xs Q hS hr q k => ?_) h
  unfold lim at q
  split at q
  · rename_i hl
    cases q
    refine ⟨by rw [hr.length, sizeLine_eq]; exact hl, fun p hp => k _ _ (Ex.new hp) ⟨p, xs, rfl, .inl (.inl (mask_upd hS hp)), hr.ex (mask_new hp)⟩⟩
  · cases q
end
end Mn
end
section
/-! Mn: statements, loops, defs and their calls. -/
namespace Mn
open PySem PySem.Spec PyProof.Rows L2

inductive Out where
  | nx | ret (d : D) (k : Kd) | cont | brk
abbrev MS := EV Out
/-- the first slot's value stays (a parameter that is changed in place) -/
def Keep (pin : Bool) (σ σ' : Sg) : Prop := pin = true → σ'[0]? = σ[0]?
theorem Keep.refl {pin : Bool} {σ : Sg} : Keep pin σ σ := fun _ => rfl
theorem Keep.trans {pin : Bool} {σ σ1 σ2 : Sg} (a : Keep pin σ σ1) (b : Keep pin σ1 σ2) : Keep pin σ σ2 := fun h => (b h).trans (a h)
theorem Keep.set {pin : Bool} {σ : Sg} {i : Nat} {x : Option V} (h : (pin && i == 0) = false) : Keep pin σ (σ.set i x) := fun hp => by
  subst hp
  have h1 : (i == 0) = false := by simpa using h
  have h2 : i ≠ 0 := by simpa using h1
  rw [List.getElem?_set_ne h2]
def PostS (K : Frag) (mg : Str → Option Value) (W : WX) (pin : Bool) (S0 S : List Addr) (σ : Sg) (H : Hp) (r : Option (Res Out × M)) (D : Ends) : Prop :=
  match r with
  | none => False
  | some (.ok .nx, μ') => ∀ S' H' σ', Gr S H S' H' → Keep pin σ σ' → R K S0 S' H' σ' μ' → D.nx σ' H'
  | some (.ok .cont, μ') => ∀ S' H' σ', Gr S H S' H' → Keep pin σ σ' → R K S0 S' H' σ' μ' → D.ct σ' H'
  | some (.ok .brk, μ') => ∀ S' H' σ', Gr S H S' H' → Keep pin σ σ' → R K S0 S' H' σ' μ' → D.bk σ' H'
  | some (.ok (.ret d k), μ') => ∀ S' H' σ' v, Gr S H S' H' → Keep pin σ σ' → R K S0 S' H' (some v :: σ') (some (d, k) :: μ') → D.rt v H'
  | some (.exn e, μ') => ∀ S' H' σ' cls dc, Gr S H S' H' → Keep pin σ σ' → R K S0 S' H' σ' μ' → ExR K mg (S0 ++ S') cls dc H' e → W cls dc σ' H'
theorem PostS.grow {K : Frag} {mg : Str → Option Value} {W : WX} {pin : Bool} {S0 S S1 : List Addr} {σ σ1 : Sg} {H H1 : Hp} {r : Option (Res Out × M)} {D : Ends} (g : Gr S H S1 H1) (kp : Keep pin σ σ1)
    (h : PostS K mg W pin S0 S σ H r D) : PostS K mg W pin S0 S1 σ1 H1 r D := by
  match r, h with
  | none, h => exact h
  | some (.ok .nx, μ'), h => exact fun S' H' σ' g' k' => h S' H' σ' (g.trans g') (kp.trans k')
  | some (.ok .cont, μ'), h => exact fun S' H' σ' g' k' => h S' H' σ' (g.trans g') (kp.trans k')
  | some (.ok .brk, μ'), h => exact fun S' H' σ' g' k' => h S' H' σ' (g.trans g') (kp.trans k')
  | some (.ok (.ret d k), μ'), h => exact fun S' H' σ' v g' k' => h S' H' σ' v (g.trans g') (kp.trans k')
  | some (.exn e, μ'), h => exact fun S' H' σ' cls dc g' k' => h S' H' σ' cls dc (g.trans g') (kp.trans k')
theorem PostS.bnd {α' β' : Type} {K : Frag} {mg : Str → Option Value} {W : WX} {pin : Bool} {S0 S : List Addr} {σ : Sg} {H : Hp} {Z' : List Addr → Hp → M → α' → β' → Prop} {a : EV α'} {f : α' → MS} {μ : M} {D : Ends} {Q' : β' → Hp → Prop}
    (h : PostS K mg W pin S0 S σ H (Mn.bnd a f μ) D)
    (k : ∀ S1 H1 μ1 x y, Gr S H S1 H1 → Z' S1 H1 μ1 x y → PostS K mg W pin S0 S1 σ H1 (f x μ1) D → Q' y H1) : Post K mg W S0 S σ H Z' (a μ) Q' := by
  rw [bnd_def] at h
  unfold Rs at h
  match q : a μ, h with
  | none, h => exact h
  | some (.ok x, μ'), h => exact fun S' H' b g z => k S' H' μ' x b g z (h.grow g Keep.refl)
  | some (.exn e, μ'), h => exact fun S' H' cls dc g r x => h S' H' σ cls dc g Keep.refl r x

def tS (K : Frag) (mg : Str → Option Value) (W : WX) (pin : Bool) (m : MS) : TS := fun D σ H => ∃ S0 S μ, R K S0 S H σ μ ∧ PostS K mg W pin S0 S σ H (m μ) D
abbrev JS (X : Cx) (W : WX) (pin : Bool) (st : Stmt) (m : MS) : Prop := PS X st (tS X.K X.mg W pin m)
abbrev JB (X : Cx) (W : WX) (pin : Bool) (sts : List Stmt) (m : MS) : Prop := PSs X sts (tS X.K X.mg W pin m)

def sq (b : MS) : Option (Res Out × M) → Option (Res Out × M)
  | some (.ok .nx, μ') => b μ'
  | some (.ok .cont, μ') => some (.ok .cont, μ')
  | some (.ok .brk, μ') => some (.ok .brk, μ')
  | some (.ok (.ret d k), μ') => some (.ok (.ret d k), μ')
  | some (.exn e, μ') => some (.exn e, μ')
  | none => none
def mSeq (a b : MS) : MS := fun μ => sq b (a μ)
section
variable {X : Cx} {W : WX} {pin : Bool} {st : Stmt} {rest : List Stmt} {a b : MS} {e c : Expr} {m : EV D} {mo : EV (D × Kd)} {pos p : Pos}
theorem seq_run {K : Frag} {mg : Str → Option Value} {D : Ends} {S0 S : List Addr} {σ : Sg} {H : Hp} {μ : M} (h : PostS K mg W pin S0 S σ H (mSeq a b μ) D) :
    PostS K mg W pin S0 S σ H (a μ) { D with nx := fun σ H => ∃ S0' S μ, R K S0' S H σ μ ∧ PostS K mg W pin S0' S σ H (b μ) D } := by
  unfold mSeq sq at h
  match q : a μ, h with
  | none, h => exact h
  | some (.ok .nx, μ'), h => exact fun S' H' σ' g k r => ⟨S0, S', μ', r, h.grow g k⟩
  | some (.ok .cont, μ'), h => exact h
  | some (.ok .brk, μ'), h => exact h
  | some (.ok (.ret d k'), μ'), h => exact h
  | some (.exn e, μ'), h => exact h
theorem jb_nil : JB X W pin [] (giv .nx) := pss_imp pss_nil fun D σ H h => by
  obtain ⟨S0, S, μ, r, h⟩ := h
  exact h S H σ Gr.refl Keep.refl r
theorem jb_one (h : JS X W pin st a) : JB X W pin [st] a := pss_one h
theorem jb_cons (h : JS X W pin st a) (h2 : JB X W pin rest b) : JB X W pin (st :: rest) (mSeq a b) := by
  refine pss_imp (pss_cons h h2) fun D σ H h => ?_
  obtain ⟨S0, S, μ, r, h⟩ := h
  exact ⟨S0, S, μ, r, seq_run h⟩
theorem js_pass : JS X W pin (.Pass pos) (giv .nx) := ps_imp ps_pass fun D σ H h => by
  obtain ⟨S0, S, μ, r, h⟩ := h
  exact h S H σ Gr.refl Keep.refl r
theorem js_cont : JS X W pin (.Continue pos) (giv .cont) := ps_imp ps_continue fun D σ H h => by
  obtain ⟨S0, S, μ, r, h⟩ := h
  exact h S H σ Gr.refl Keep.refl r
theorem js_retN : JS X W pin (.Return none pos) (giv (.ret .non .z)) := ps_imp ps_retN fun D σ H h => by
  obtain ⟨S0, S, μ, r, h⟩ := h
  exact h S H σ .non Gr.refl Keep.refl (r.push rfl)
def mRet (m : EV D) : MS := bnd m fun d => giv (.ret d .z)
def mRetO (m : EV (D × Kd)) : MS := bnd m fun d => giv (.ret d.1 d.2)
theorem js_ret (h : JF X W e m) : JS X W pin (.Return (some e) pos) (mRet m) := ps_imp (ps_ret h) fun D σ H h => by
  obtain ⟨S0, S, μ, r, h⟩ := h
  exact ⟨S0, S, μ, r, PostS.bnd (Z' := ZF X.K S0 σ) h fun S1 H1 μ1 d v g1 z1 h1 => h1 S1 H1 σ v Gr.refl Keep.refl (z1.1.push z1.2)⟩
theorem js_retO (h : JO X W e mo) : JS X W pin (.Return (some e) pos) (mRetO mo) := ps_imp (ps_ret h) fun D σ H h => by
  obtain ⟨S0, S, μ, r, h⟩ := h
  exact ⟨S0, S, μ, r, PostS.bnd (Z' := ZO X.K S0 σ) h fun S1 H1 μ1 d v g1 z1 h1 => h1 S1 H1 σ v Gr.refl Keep.refl z1⟩
/-- a value is stored -/
def put (i : Nat) (dk : D × Kd) : MS := fun μ => if i < μ.length then some (.ok .nx, μ.set i (some dk)) else none
def mSet (i : Nat) (m : EV D) : MS := bnd m fun d => put i (d, .z)
def mSetO (i : Nat) (m : EV (D × Kd)) : MS := bnd m fun d => put i d
theorem put_run {K : Frag} {mg : Str → Option Value} {D : Ends} {S0 S : List Addr} {σ : Sg} {H : Hp} {μ : M} {i : Nat} {dk : Mn.D × Kd} {v : V} (hp : (pin && i == 0) = false) (r : R K S0 S H (some v :: σ) (some dk :: μ))
    (h : PostS K mg W pin S0 S σ H (put i dk μ) D) : D.nx (σ.set i (some v)) H := by
  unfold put at h
  split at h
  · rename_i hi
    obtain ⟨d, k⟩ := dk
    have hl : σ.length = μ.length := by simpa using r.sl.len
    obtain ⟨S', sub, r'⟩ := r.store (i := i) (by rw [hl]; exact hi)
    exact h S' H _ (gr_sub sub) (Keep.set hp) r'
  · exact h.elim
theorem js_set {i : Nat} {x : Str} {pos' : Pos} (hp : (pin && i == 0) = false) (hN : X.N.Nodup) (hi : X.N[i]? = some x) (hx : Loc X.env.scope x) (he : JF X W e m) (hs : swapsWith e (some (.Name x pos')) pos.line X.env = pure false := by rfl) (hf : X.fn x = true ∨ X.env.scope.names.lookup x = some .local := by first | exact .inl rfl | exact .inr rfl | assumption) :
    JS X W pin (.Assign [.Name x pos'] e pos) (mSet i m) := ps_imp (ps_set hN hi hx he hs hf) fun D σ H h => by
  obtain ⟨S0, S, μ, r, h⟩ := h
  exact ⟨S0, S, μ, r, PostS.bnd (Z' := ZF X.K S0 σ) h fun S1 H1 μ1 d v g1 z1 h1 => put_run hp (z1.1.push z1.2) h1⟩
theorem js_setO {i : Nat} {x : Str} {pos' : Pos} (hp : (pin && i == 0) = false) (hN : X.N.Nodup) (hi : X.N[i]? = some x) (hx : Loc X.env.scope x) (he : JO X W e mo) (hs : swapsWith e (some (.Name x pos')) pos.line X.env = pure false := by rfl) (hf : X.fn x = true ∨ X.env.scope.names.lookup x = some .local := by first | exact .inl rfl | exact .inr rfl | assumption) :
    JS X W pin (.Assign [.Name x pos'] e pos) (mSetO i mo) := ps_imp (ps_set hN hi hx he hs hf) fun D σ H h => by
  obtain ⟨S0, S, μ, r, h⟩ := h
  exact ⟨S0, S, μ, r, PostS.bnd (Z' := ZO X.K S0 σ) h fun S1 H1 μ1 d v g1 z1 h1 => put_run hp z1 h1⟩
/-- x op= e, frozen values -/
def mAug (i : Nat) (g : D → D → Option D) (m : EV D) : MS := bnd (rdv i) fun x => bnd m fun y => bnd (opt (g x y)) fun z => put i (z, .z)
theorem js_aug {i : Nat} {x : Str} {op : Operator} {r : R2} {g : D → D → Option D} {pos' : Pos} (hp : (pin && i == 0) = false) (hN : X.N.Nodup) (hi : X.N[i]? = some x) (hx : Loc X.env.scope x) (ho : OpR X (inplaceOp op) r) (hg : Op2 X.K r g) (he : JF X W e m)
    (hf : X.fn x = true ∨ X.env.scope.names.lookup x = some .local := by first | exact .inl rfl | exact .inr rfl | assumption) : JS X W pin (.AugAssign (.Name x pos') op e pos) (mAug i g m) := ps_imp (ps_aug hN hi hx he (ti := r) ho hf) fun D σ H h => by
  obtain ⟨S0, S, μ, rr, h⟩ := h
  have key : ∀ {d : Mn.D} {v : V} {S1 : List Addr} {μ1 : M}, R X.K S0 S1 H σ μ1 → Gr S H S1 H → Rep X.K (mask H (S0 ++ S1)) d v → PostS X.K X.mg W pin S0 S1 σ H ((bnd m fun y => bnd (opt (g d y)) fun z => put i (z, .z)) μ1) D →
      tF X.K X.mg W m σ H fun y H1 => r v y H1 fun z H2 => D.nx (σ.set i (some z)) H2 := fun {d v S1 μ1} r1 g1 p1 h1 => by
    refine ⟨S0, S1, μ1, r1, PostS.bnd (Z' := ZF X.K S0 σ) h1 fun S2 H2 μ2 y u g2 z2 h2 => ?_⟩
    cases q : g d y with
    | none =>
      rw [q] at h2
      exact h2.elim
    | some c =>
      rw [q] at h2
      exact hg (S0 ++ S2) H2 d y c v u _ z2.1.tr (p1.ex g2.mask) z2.2 q fun w H3 ex p => put_run hp ((z2.1.ex ex).push p) (PostS.grow (Gr.ex ex) Keep.refl (show PostS X.K X.mg W pin S0 S2 σ H2 (put i (c, .z) μ2) D from h2))
  unfold mAug at h
  rw [bnd_def] at h
  unfold rdv at h
  cases q : μ[i]? with
  | none =>
    rw [q] at h
    exact h.elim
  | some o =>
    rw [q] at h
    cases o with
    | none => exact h.elim
    | some dk =>
      obtain ⟨d, k⟩ := dk
      cases k with
      | z =>
        obtain ⟨v, e1, p1⟩ := rr.read0 q
        exact ⟨v, e1, key rr Gr.refl p1 h⟩
      | s k =>
        obtain ⟨v, S', e1, sub, r', p1⟩ := rr.read q
        exact ⟨v, e1, key r' (gr_sub sub) p1 (h.grow (gr_sub sub) Keep.refl)⟩
def mDrop (m : EV D) : MS := bnd m fun _ => giv .nx
theorem js_expr (he : JF X W e m) (hs : swapsWith e none pos.line X.env = pure false := by rfl) : JS X W pin (.Expr e pos) (mDrop m) := ps_imp (ps_expr he hs) fun D σ H h => by
  obtain ⟨S0, S, μ, r, h⟩ := h
  exact ⟨S0, S, μ, r, PostS.bnd (Z' := ZF X.K S0 σ) h fun S1 H1 μ1 d v g1 z1 h1 => h1 S1 H1 σ Gr.refl Keep.refl z1.1⟩
theorem js_doc {x : Str} {j : Nat} {pos' : Pos} : JS X W pin (.Expr (.Constant (.str x) j pos) pos') (giv .nx) := ps_imp ps_doc fun D σ H h => by
  obtain ⟨S0, S, μ, r, h⟩ := h
  exact h S H σ Gr.refl Keep.refl r
variable {sa sb : List Stmt} {mt : EV Bool}
theorem js_if (hc : JT X W c mt) (ha : JB X W pin sa a) (hb : JB X W pin sb b) : JS X W pin (.If c sa sb pos) (mIf mt a b) := ps_imp (ps_if hc ha hb) fun D σ H h => by
  obtain ⟨S0, S, μ, r, h⟩ := h
  refine ⟨S0, S, μ, r, PostS.bnd (Z' := ZB X.K S0 σ) h fun S1 H1 μ1 d v g1 z1 h1 => ?_⟩
  obtain ⟨z1, e⟩ := z1
  subst e
  cases d with
  | true =>
    rw [if_pos rfl]
    exact ⟨S0, S1, μ1, z1, h1⟩
  | false =>
    rw [if_neg Bool.false_ne_true]
    exact ⟨S0, S1, μ1, z1, h1⟩
/-! loops -/
/-- behind a turn -/
def lp : Option (Res Out × M) → MS → Option (Res Out × M)
  | some (.ok .nx, μ'), next => next μ'
  | some (.ok .cont, μ'), next => next μ'
  | some (.ok .brk, μ'), _ => some (.ok .nx, μ')
  | some (.ok (.ret d k), μ'), _ => some (.ok (.ret d k), μ')
  | some (.exn e, μ'), _ => some (.exn e, μ')
  | none, _ => none
theorem lp_run {K : Frag} {mg : Str → Option Value} {D : Ends} {S0 S : List Addr} {σ : Sg} {H : Hp} {r : Option (Res Out × M)} {next : MS} {N : Sg → Hp → Prop} (h : PostS K mg W pin S0 S σ H (lp r next) D)
    (hN : ∀ S' H' σ' μ', Gr S H S' H' → Keep pin σ σ' → R K S0 S' H' σ' μ' → PostS K mg W pin S0 S' σ' H' (next μ') D → N σ' H') : PostS K mg W pin S0 S σ H r { D with nx := N, ct := N, bk := D.nx } := by
  match r, h with
  | none, h => exact h
  | some (.ok .nx, μ'), h => exact fun S' H' σ' g k r => hN S' H' σ' μ' g k r (h.grow g k)
  | some (.ok .cont, μ'), h => exact fun S' H' σ' g k r => hN S' H' σ' μ' g k r (h.grow g k)
  | some (.ok .brk, μ'), h => exact h
  | some (.ok (.ret d k'), μ'), h => exact h
  | some (.exn e, μ'), h => exact h
def mWh (t : EV Bool) (b : MS) : Nat → MS
  | 0 => fun _ => none
  | n + 1 => bnd t fun k => cond k (fun μ => lp (b μ) (mWh t b n)) (giv .nx)
theorem js_while {n : Nat} (hp : PassesOwn (model X.prog X.w) X.A X.env X.xe) (hc : JT X W c mt) (hb : JB X W pin sa a) : JS X W pin (.While c sa [] pos) (mWh mt a n) := ps_imp (ps_while hp hc hb) fun D σ H h => by
  refine ⟨fun n σ H => ∃ S0 S μ, R X.K S0 S H σ μ ∧ PostS X.K X.mg W pin S0 S σ H (mWh mt a n μ) D, ⟨n, h⟩, fun m σ H w => ?_⟩
  obtain ⟨S0, S, μ, r, h⟩ := w
  cases m with
  | zero => exact h.elim
  | succ m =>
    refine ⟨S0, S, μ, r, PostS.bnd (Z' := ZB X.K S0 σ) h fun S1 H1 μ1 d v g1 z1 h1 => ?_⟩
    obtain ⟨z1, e⟩ := z1
    subst e
    cases d with
    | true =>
      rw [if_pos rfl]
      refine ⟨fun σ' H' => ∃ S0 S μ, R X.K S0 S H' σ' μ ∧ PostS X.K X.mg W pin S0 S σ' H' (mWh mt a m μ) D, fun σ' H' w => ⟨m, Nat.lt_succ_self m, w⟩, S0, S1, μ1, z1, lp_run h1 fun S' H' σ' μ' g k r p => ⟨S0, S', μ', r, p⟩⟩
    | false =>
      rw [if_neg Bool.false_ne_true]
      exact h1 S1 H1 σ Gr.refl Keep.refl z1
/-- the iterator J gives the items ds, wherever what is frozen in F is -/
def ItD (K : Frag) (F : Hp) (ds : List D) (J : It) : Prop := ∀ (i : Nat) (S : List Addr) (H : Hp), (∀ a ∈ S, H a ≠ none) → Ex F (mask H S) →
  (∀ d, ds[i]? = some d → J.go i H ∧ ∀ x H', J.yld i H x H' → Ex H H' ∧ Rep K (mask H' S) d x) ∧ (ds.length ≤ i → J.stop i H)
def ZIt (K : Frag) (S0 : List Addr) (σ : Sg) : List Addr → Hp → M → List D → It → Prop := fun S H μ ds J => R K S0 S H σ μ ∧ ItD K (mask H (S0 ++ S)) ds J
def tI (K : Frag) (mg : Str → Option Value) (W : WX) (m : EV (List D)) : TI := fun σ H Q => ∃ S0 S μ, R K S0 S H σ μ ∧ Post K mg W S0 S σ H (ZIt K S0 σ) (m μ) Q
abbrev JI (X : Cx) (W : WX) (tg iter : Expr) (m : EV (List D)) : Prop := PI X tg iter (tI X.K X.mg W m)
/-- a target -/
abbrev TgE := D × Kd → M → Option M
/-- the slots but those of ts are the same -/
def Same (ts : List Nat) (σ σ' : Sg) : Prop := σ'.length = σ.length ∧ ∀ j, j ∉ ts → σ'[j]? = σ[j]?
theorem Same.refl {ts : List Nat} {σ : Sg} : Same ts σ σ := ⟨rfl, fun _ _ => rfl⟩
theorem Same.trans {ts us : List Nat} {σ σ1 σ2 : Sg} (a : Same ts σ σ1) (b : Same us σ1 σ2) : Same (ts ++ us) σ σ2 := ⟨b.1.trans a.1, fun j h => (b.2 j fun z => h (List.mem_append_right _ z)).trans (a.2 j fun z => h (List.mem_append_left _ z))⟩
theorem Same.set {σ : Sg} {i : Nat} {x : Option V} : Same [i] σ (σ.set i x) := ⟨List.length_set, fun j h => List.getElem?_set_ne fun z => h (by rw [z]; exact List.mem_cons_self)⟩
theorem Same.keep {ts : List Nat} {σ σ' : Sg} (h : Same ts σ σ') (hp : (pin && decide (0 ∈ ts)) = false) : Keep pin σ σ' := fun q => by
  subst q
  exact h.2 0 fun z => by simp [z] at hp
def tG (K : Frag) (ts : List Nat) (g : TgE) : TG := fun v σ H Q => ∃ S0 S μ dk, R K S0 S H (some v :: σ) (some dk :: μ) ∧ ∃ μ', g dk μ = some μ' ∧ ∀ S' σ', (∀ a ∈ S', a ∈ S) → Same ts σ σ' → R K S0 S' H σ' μ' → Q σ' H
abbrev JG (X : Cx) (ts : List Nat) (t : Expr) (g : TgE) : Prop := PG X t (tG X.K ts g)
theorem pg_imp {t : Expr} {g g' : TG} (h : PG X t g) (i : ∀ v σ H Q, g' v σ H Q → g v σ H Q) : PG X t g' := ⟨fun pins s σ H v u Q I r q => h.run pins s σ H v u Q I r (i v σ H Q q)⟩
theorem pgs_imp {t : List Expr} {g g' : TGs} (h : PGs X t g) (i : ∀ v σ H Q, g' v σ H Q → g v σ H Q) : PGs X t g' := ⟨fun pins s σ H v u Q I r q => h.run pins s σ H v u Q I r (i v σ H Q q)⟩
theorem pi_imp {tg : Expr} {t t' : TI} (h : PI X tg e t) (i : ∀ σ H Q, t' σ H Q → t σ H Q) : PI X tg e t' := ⟨fun pins s σ H Q I q => h.run pins s σ H Q I (i σ H Q q)⟩
def gN (i : Nat) : TgE := fun dk μ => if i < μ.length then some (μ.set i (some dk)) else none
theorem jg_name {i : Nat} {x : Str} (hN : X.N.Nodup) (hi : X.N[i]? = some x) (hx : Loc X.env.scope x) (hf : X.fn x = true ∨ X.env.scope.names.lookup x = some .local := by first | exact .inl rfl | exact .inr rfl | assumption) : JG X [i] (.Name x pos) (gN i) := pg_imp (pg_name hN hi hx hf) fun v σ H Q h => by
  obtain ⟨S0, S, μ, dk, r, μ', e, h⟩ := h
  unfold gN at e
  split at e
  · rename_i hi
    cases e
    obtain ⟨d, k⟩ := dk
    have hl : σ.length = μ.length := by simpa using r.sl.len
    obtain ⟨S', sub, r'⟩ := r.store (i := i) (by rw [hl]; exact hi)
    exact h S' _ sub Same.set r'
  · cases e
/-- several targets, of the items of a frozen tuple -/
abbrev TgsE := List D → M → Option M
def tGs (K : Frag) (ts : List Nat) (g : TgsE) : TGs := fun vs σ H Q => ∃ S0 S μ ds, R K S0 S H σ μ ∧ Reps K (mask H (S0 ++ S)) ds vs ∧ ∃ μ', g ds μ = some μ' ∧ ∀ S' σ', (∀ a ∈ S', a ∈ S) → Same ts σ σ' → R K S0 S' H σ' μ' → Q σ' H
abbrev JGs (X : Cx) (us : List Nat) (ts : List Expr) (g : TgsE) : Prop := PGs X ts (tGs X.K us g)
def gsN : TgsE := fun ds μ => match ds with
  | [] => some μ
  | _ => none
def gsC (g : TgE) (gs : TgsE) : TgsE := fun ds μ => match ds with
  | d :: r => match g (d, .z) μ with
    | some μ' => gs r μ'
    | none => none
  | [] => none
theorem jgs_nil : JGs X [] [] gsN := pgs_imp pgs_nil fun v σ H Q h => by
  obtain ⟨S0, S, μ, ds, r, q, μ', e, h⟩ := h
  cases ds with
  | nil =>
    have ev : v = [] := q
    cases e
    exact ⟨ev, h S σ (fun _ z => z) Same.refl r⟩
  | cons d ds => cases e
theorem jgs_cons {t : Expr} {ts : List Expr} {g : TgE} {gs : TgsE} {u us : List Nat} (h1 : JG X u t g) (h2 : JGs X us ts gs) (hs : (assignEach (t :: ts) X.env).map (·.2) = assign t X.env :: (assignEach ts X.env).map (·.2) := by rfl) : JGs X (u ++ us) (t :: ts) (gsC g gs) := pgs_imp (pgs_cons h1 h2 hs) fun v σ H Q h => by
  obtain ⟨S0, S, μ, ds, r, q, μ', e, h⟩ := h
  cases ds with
  | nil => cases e
  | cons d ds =>
    obtain ⟨x, xr, e1, q1, q2⟩ := q
    unfold gsC at e
    dsimp only at e
    cases eg : g (d, .z) μ with
    | none =>
      rw [eg] at e
      cases e
    | some μ1 =>
      rw [eg] at e
      refine ⟨x, xr, e1, S0, S, μ, (d, .z), r.push q1, μ1, eg, fun S' σ' sub kp r' => ?_⟩
      exact ⟨S0, S', μ1, ds, r', q2.ex (mask_sub sub), μ', e, fun S2 σ2 sub2 kp2 r2 => h S2 σ2 (fun a ha => sub a (sub2 a ha)) (kp.trans kp2) r2⟩
def gTp (n : Nat) (gs : TgsE) : TgE := fun dk μ => match dk with
  | (.tup ds, _) => if ds.length = n then gs ds μ else none
  | _ => none
theorem jg_tup {ts : List Expr} {k n : Nat} {gs : TgsE} {us : List Nat} (hc : X.calm = true) (h : JGs X us ts gs) (hn : (assignEach ts X.env).length = n := by rfl) (hst : (assignEach ts X.env).findIdx? (·.1) = none := by rfl) : JG X us (.Tuple ts k pos) (gTp n gs) := pg_imp (pg_tup hc h hn hst) fun v σ H Q h => by
  obtain ⟨S0, S, μ, dk, r, μ', e, h⟩ := h
  obtain ⟨d, k⟩ := dk
  obtain ⟨S1, sub, r1, q⟩ := r.pop
  cases d with
  | tup ds =>
    have e' : (if ds.length = n then gs ds μ else none) = some μ' := e
    split at e'
    · rename_i hl
      obtain ⟨a, vs, e1, q1, q2⟩ := q
      exact ⟨a, vs, e1, ex_t mask_ex q1, by rw [q2.length, hl], S0, S1, μ, ds, r1, q2, μ', e', fun S2 σ2 sub2 kp2 r2 => h S2 σ2 (fun a ha => sub a (sub2 a ha)) kp2 r2⟩
    · cases e'
  | _ => cases e
/-- a turn -/
def tn (b next : MS) : Option M → Option (Res Out × M)
  | none => none
  | some μ1 => lp (b μ1) next
/-- the turns of a for -/
def mTurns (g : TgE) (b : MS) : List D → MS
  | [] => giv .nx
  | d :: ds => fun μ => tn b (mTurns g b ds) (g (d, .z) μ)
def mFor (it : EV (List D)) (g : TgE) (b : MS) : MS := bnd it fun ds => mTurns g b ds
theorem js_for {tg iter : Expr} {mi : EV (List D)} {g : TgE} {us : List Nat} (hpn : (pin && decide (0 ∈ us)) = false) (hp : PassesOwn (model X.prog X.w) X.A X.env X.xe) (hc : X.calm = true) (hi : JI X W tg iter mi) (hg : JG X us tg g) (hb : JB X W pin sa a)
    (hs : ∀ x, foldedSetIterable iter X.env x = pure x := by intro _; rfl) : JS X W pin (.For tg iter sa [] pos) (mFor mi g a) := ps_imp (ps_for hp hc hi hg hb hs) fun D σ H h => by
  obtain ⟨S0, S, μ, r, h⟩ := h
  refine ⟨S0, S, μ, r, PostS.bnd (Z' := ZIt X.K S0 σ) h fun S1 H1 μ1 ds J g1 z1 h1 => ?_⟩
  obtain ⟨r1, it1⟩ := z1
  refine ⟨fun i m σ2 H2 => m + i = ds.length ∧ ∃ S2 μ2, Gr S1 H1 S2 H2 ∧ R X.K S0 S2 H2 σ2 μ2 ∧ PostS X.K X.mg W pin S0 S2 σ2 H2 (mTurns g a (ds.drop i) μ2) D, ⟨ds.length, rfl, S1, μ1, Gr.refl, r1, by rw [List.drop_zero]; exact h1⟩, fun i m σ2 H2 w => ?_⟩
  obtain ⟨em, S2, μ2, g2, r2, h2⟩ := w
  obtain ⟨ig, is⟩ := it1 i (S0 ++ S2) H2 r2.tr g2.mask
  cases q : ds[i]? with
  | none =>
    have hl : ds.length ≤ i := List.getElem?_eq_none_iff.mp q
    rw [List.drop_eq_nil_of_le hl] at h2
    exact .inl ⟨is hl, h2 S2 H2 σ2 Gr.refl Keep.refl r2⟩
  | some d =>
    obtain ⟨hl, hd⟩ := List.getElem?_eq_some_iff.mp q
    rw [List.drop_eq_getElem_cons hl, hd] at h2
    obtain ⟨go, yl⟩ := ig d q
    refine .inr ⟨go, fun σ' H' => ∃ S' μ', Gr S1 H1 S' H' ∧ R X.K S0 S' H' σ' μ' ∧ PostS X.K X.mg W pin S0 S' σ' H' (mTurns g a (ds.drop (i + 1)) μ') D, fun σ' H' hN => ?_, fun x H' hy => ?_⟩
    · obtain ⟨S', μ', g', r', p'⟩ := hN
      exact ⟨m - 1, by omega, by omega, S', μ', g', r', p'⟩
    · obtain ⟨ex, p⟩ := yl x H' hy
      have r2' := r2.ex ex
      have h3 : PostS X.K X.mg W pin S0 S2 σ2 H' (tn a (mTurns g a (ds.drop (i + 1))) (g (d, .z) μ2)) D := PostS.grow (Gr.ex ex) Keep.refl h2
      cases eg : g (d, .z) μ2 with
      | none =>
        rw [eg] at h3
        exact h3.elim
      | some μ3 =>
        rw [eg] at h3
        refine ⟨S0, S2, μ2, (d, .z), r2'.push p, μ3, eg, fun S3 σ3 sub3 kp3 r3 => ?_⟩
        refine ⟨S0, S3, μ3, r3, lp_run (PostS.grow (gr_sub sub3) (kp3.keep hpn) h3) fun S4 H4 σ4 μ4 g4 k4 r4 p4 => ?_⟩
        exact ⟨S4, μ4, g2.trans ((Gr.ex ex).trans ((gr_sub sub3).trans g4)), r4, p4⟩
/-- target = value -/
def ag : Option M → Option (Res Out × M)
  | none => none
  | some μ' => some (.ok .nx, μ')
def mAsg (m : EV D) (g : TgE) : MS := bnd m fun d => fun μ => ag (g (d, .z) μ)
theorem js_asg {tg : Expr} {g : TgE} {us : List Nat} (hpn : (pin && decide (0 ∈ us)) = false) (he : JF X W e m) (hg : JG X us tg g) (hs : swapsWithSole [tg] e pos.line X.env = pure false := by rfl) (hw : swappedStores [tg] e X.env = pure none := by rfl) (h1 : (assignEach [tg] X.env).map (·.2) = [assign tg X.env] := by rfl) :
    JS X W pin (.Assign [tg] e pos) (mAsg m g) := ps_imp (ps_asg he hg hs hw h1) fun D σ H h => by
  obtain ⟨S0, S, μ, r, h⟩ := h
  refine ⟨S0, S, μ, r, PostS.bnd (Z' := ZF X.K S0 σ) h fun S1 H1 μ1 d v g1 z1 h1 => ?_⟩
  cases eg : g (d, .z) μ1 with
  | none =>
    rw [eg] at h1
    exact h1.elim
  | some μ2 =>
    rw [eg] at h1
    exact ⟨S0, S1, μ1, (d, .z), z1.1.push z1.2, μ2, eg, fun S2 σ2 sub kp r2 => h1 S2 H1 σ2 (gr_sub sub) (kp.keep hpn) r2⟩
end
/-! ### items of a list: walked -/
section
variable {X : Cx} {W : WX} {tg e : Expr} {m : EV D} {pos p : Pos}
def asItems : D → Option (List D)
  | .lst ds => some ds
  | .tup ds => some ds
  | _ => none
def mIt (f : D → Option (List D)) (m : EV D) : EV (List D) := bnd m fun d => opt (f d)
def asL : D → Option (List D)
  | .lst ds => some ds
  | _ => none
def asT : D → Option (List D)
  | .tup ds => some ds
  | _ => none
end
end Mn
end
section
/-! Mn: what is walked, defs and their calls, the operations. -/
namespace Mn
open PySem PySem.Spec PyProof.Rows L2
section
variable {X : Cx} {W : WX} {pin : Bool} {tg e : Expr} {es : List Expr} {m : EV D} {ms : EV (List D)} {pos p : Pos}
/-- a list or a tuple, whichever it is -/
def iSeq (K : Frag) (tl : TE) : TI := fun σ H R => tl σ H fun x H1 => ∃ a, x = .ref a ∧ (((∃ xs, SqL K H1 a xs) ∧ R (Itl K a) H1) ∨ ((∃ xs, SqT K H1 a xs) ∧ R (Itt K a) H1))
theorem pi_seq {l : Expr} {tl : TE} (hl : PE X l tl) : PI X tg l (iSeq X.K tl) := by
  refine ⟨fun pins s σ H R I h => ?_⟩
  refine thn (hl.run pins s σ H _ I h) fun v s1 ⟨x, H1, I1, r1, q1⟩ => ?_
  obtain ⟨a, e, q1⟩ := q1
  subst e
  cases r1
  rcases q1 with ⟨⟨xs, hq⟩, q⟩ | ⟨⟨xs, hq⟩, q⟩
  · obtain ⟨its, rv, p, hz⟩ := I1.list hq
    refine wpAny_pyIter_list p.isList ?_
    refine ⟨s1.heap.objs.size, [s1.heap.objs.size], _, _, H1, rfl, I1.kept (t' := s1.toks) fun b o e => Heap.get?_push_of_some _ e, turn_list a _, ⟨_, Heap.get?_push_size _ rfl, rfl, rfl⟩, fun b hb => ?_, q⟩
    have e : b = s1.heap.objs.size := by simpa using hb
    subst e
    exact I1.fpOk (Nat.le_refl _) (I1.hok.fresh (Nat.le_refl _))
  · obtain ⟨its, rv, p, hz⟩ := I1.tuple hq
    refine wpAny_pyIter_tuple (show s1.heap.IsTuple a its.toArray from p) ?_
    refine ⟨s1.heap.objs.size, [s1.heap.objs.size], _, _, H1, rfl, I1.kept (t' := s1.toks) fun b o e => Heap.get?_push_of_some _ e, turn_tuple a _, ⟨_, Heap.get?_push_size _ rfl, rfl, rfl⟩, fun b hb => ?_, q⟩
    have e : b = s1.heap.objs.size := by simpa using hb
    subst e
    exact I1.fpOk (Nat.le_refl _) (I1.hok.fresh (Nat.le_refl _))
theorem itd_list {K : Frag} {F : Hp} {a : Addr} {vs : List V} {ds : List D} (h : SqL K F a vs) (r : Reps K F ds vs) : ItD K F ds (Itl K a) := fun i S H hS ex => by
  have h' : SqL K H a vs := ex_l mask_ex (ex_l ex h)
  refine ⟨fun d q => ?_, fun hl => ⟨vs, h', by rw [r.length]; exact hl⟩⟩
  obtain ⟨v, q1, q2⟩ := r.get q
  refine ⟨⟨vs, v, h', q1⟩, fun x H' y => ?_⟩
  obtain ⟨e1, y⟩ := y
  subst e1
  have e2 : v = x := Option.some.inj (q1.symm.trans (y vs h'))
  subst e2
  exact ⟨Ex.refl _, q2.ex ex⟩
theorem itd_tup {K : Frag} {F : Hp} {a : Addr} {vs : List V} {ds : List D} (h : SqT K F a vs) (r : Reps K F ds vs) : ItD K F ds (Itt K a) := fun i S H hS ex => by
  have h' : SqT K H a vs := ex_t mask_ex (ex_t ex h)
  refine ⟨fun d q => ?_, fun hl => ⟨vs, h', by rw [r.length]; exact hl⟩⟩
  obtain ⟨v, q1, q2⟩ := r.get q
  refine ⟨⟨vs, v, h', q1⟩, fun x H' y => ?_⟩
  obtain ⟨e1, y⟩ := y
  subst e1
  have e2 : v = x := Option.some.inj (q1.symm.trans (y vs h'))
  subst e2
  exact ⟨Ex.refl _, q2.ex ex⟩
/-- for x in a list or tuple -/
theorem ji_seq (h : JF X W e m) : JI X W tg e (mIt asItems m) := pi_imp (pi_seq h) fun σ H Q h => by
  obtain ⟨S0, S, μ, r, h⟩ := h
  refine ⟨S0, S, μ, r, Post.bnd (Z' := ZF X.K S0 σ) h fun S1 H1 μ1 d v g1 z1 h1 => ?_⟩
  cases d with
  | lst ds =>
    obtain ⟨a, vs, e1, q1, q2⟩ := z1.2
    exact ⟨a, e1, .inl ⟨⟨vs, ex_l mask_ex q1⟩, h1 S1 H1 _ Gr.refl ⟨z1.1, itd_list q1 q2⟩⟩⟩
  | tup ds =>
    obtain ⟨a, vs, e1, q1, q2⟩ := z1.2
    exact ⟨a, e1, .inr ⟨⟨vs, ex_t mask_ex q1⟩, h1 S1 H1 _ Gr.refl ⟨z1.1, itd_tup q1 q2⟩⟩⟩
  | _ => exact h1.elim
/-- lo, lo + 1, .. below hi -/
def rangeD (lo hi : Int) : List D := (List.range (hi - lo).toNat).map fun (k : Nat) => .int (lo + k)
theorem itd_range {K : Frag} {F : Hp} {lo hi : Int} : ItD K F (rangeD lo hi) (Itr lo (hi - lo).toNat) := fun i S H hS ex => by
  refine ⟨fun d q => ?_, fun hl => by
    unfold rangeD at hl
    rw [List.length_map, List.length_range] at hl
    exact hl⟩
  unfold rangeD at q
  rw [List.getElem?_map] at q
  by_cases hi' : i < (hi - lo).toNat
  · rw [List.getElem?_range hi'] at q
    cases q
    refine ⟨hi', fun x H' y => ?_⟩
    obtain ⟨e1, e2⟩ := y
    subst e1
    exact ⟨Ex.refl _, e2⟩
  · rw [List.getElem?_eq_none (by simpa using hi')] at q
    cases q
def inR (j : Int) : Bool := Nat.ble j.natAbs 4611686018427387903
theorem inR_ok {j : Int} (h : inR j = true) : -(2 ^ 62) ≤ j ∧ j < 2 ^ 62 := by
  have h2 := Nat.le_of_ble_eq_true h
  omega
theorem inR_of {j : Int} (h1 : -4611686018427387904 < j) (h2 : j < 4611686018427387904) : inR j = true := Nat.ble_eq_true_of_le (by omega)
def rng1 : List D → Option (List D)
  | [.int j] => bif inR j then some (rangeD 0 j) else none
  | _ => none
def rng2 : List D → Option (List D)
  | [.int i, .int j] => bif inR i && inR j then some (rangeD i j) else none
  | _ => none
theorem rng1_ok {ds xs : List D} (h : rng1 ds = some xs) : ∃ j, ds = [.int j] ∧ inR j = true ∧ xs = rangeD 0 j := by
  unfold rng1 at h
  split at h
  · rename_i j
    cases e : inR j with
    | true =>
      rw [e] at h
      cases h
      exact ⟨j, rfl, e, rfl⟩
    | false =>
      rw [e] at h
      cases h
  · cases h
theorem rng2_ok {ds xs : List D} (h : rng2 ds = some xs) : ∃ i j, ds = [.int i, .int j] ∧ (inR i = true ∧ inR j = true) ∧ xs = rangeD i j := by
  unfold rng2 at h
  split at h
  · rename_i i j
    cases e : (inR i && inR j) with
    | true =>
      rw [e] at h
      cases h
      exact ⟨i, j, rfl, Bool.and_eq_true_iff.mp e, rfl⟩
    | false =>
      rw [e] at h
      cases h
  · cases h
def mRg (f : List D → Option (List D)) (a : EV (List D)) : EV (List D) := bnd a fun ds => opt (f ds)
theorem reps1 {K : Frag} {F : Hp} {d : D} {vs : List V} (h : Reps K F [d] vs) : ∃ v, vs = [v] ∧ Rep K F d v := by
  obtain ⟨v, r, e, h1, h2⟩ := h
  have e2 : r = [] := h2
  subst e2
  exact ⟨v, e, h1⟩
theorem reps2 {K : Frag} {F : Hp} {d d' : D} {vs : List V} (h : Reps K F [d, d'] vs) : ∃ v u, vs = [v, u] ∧ Rep K F d v ∧ Rep K F d' u := by
  obtain ⟨v, r, e, h1, h2⟩ := h
  obtain ⟨u, e2, h3⟩ := reps1 h2
  subst e2
  exact ⟨v, u, e, h1, h3⟩
theorem reps3 {K : Frag} {F : Hp} {d d' d2 : D} {vs : List V} (h : Reps K F [d, d', d2] vs) : ∃ v u w, vs = [v, u, w] ∧ Rep K F d v ∧ Rep K F d' u ∧ Rep K F d2 w := by
  obtain ⟨v, r, e, h1, h2⟩ := h
  obtain ⟨u, w, e2, h3, h4⟩ := reps2 h2
  subst e2
  exact ⟨v, u, w, e, h1, h3, h4⟩
theorem ji_range1 {a : Expr} (hg : Gl X "range") (hm : X.mg "range" = none) (ha : JA X W [a] ms) (hs : starEach [a] X.env = [(false, eval a X.env)] := by rfl) : JI X W tg (.Call (.Name "range" p) [a] [] pos) (mRg rng1 ms) := pi_imp (pi_range1 hg hm ha hs) fun σ H Q h => by
  obtain ⟨S0, S, μ, r, h⟩ := h
  refine ⟨S0, S, μ, r, Post.bnd (Z' := ZFs X.K S0 σ) h fun S1 H1 μ1 ds vs g1 z1 h1 => ?_⟩
  cases q : rng1 ds with
  | none =>
    rw [q] at h1
    exact h1.elim
  | some xs =>
    rw [q] at h1
    obtain ⟨j, e1, e2, e3⟩ := rng1_ok q
    subst e1
    subst e3
    obtain ⟨v, e, q⟩ := reps1 z1.2
    have e2' : v = .int j := q
    subst e2'
    have hc := inR_ok e2
    refine ⟨j, e, hc.1, hc.2, h1 S1 H1 _ Gr.refl ⟨z1.1, ?_⟩⟩
    have z := itd_range (K := X.K) (F := mask H1 (S0 ++ S1)) (lo := 0) (hi := j)
    rw [Int.sub_zero] at z
    exact z
theorem ji_range2 {a b : Expr} (hg : Gl X "range") (hm : X.mg "range" = none) (ha : JA X W [a, b] ms) (hs : starEach [a, b] X.env = [(false, eval a X.env), (false, eval b X.env)] := by rfl) (hs2 : starEach [b] X.env = [(false, eval b X.env)] := by rfl) : JI X W tg (.Call (.Name "range" p) [a, b] [] pos) (mRg rng2 ms) := pi_imp (pi_range2 hg hm ha hs hs2) fun σ H Q h => by
  obtain ⟨S0, S, μ, r, h⟩ := h
  refine ⟨S0, S, μ, r, Post.bnd (Z' := ZFs X.K S0 σ) h fun S1 H1 μ1 ds vs g1 z1 h1 => ?_⟩
  cases q : rng2 ds with
  | none =>
    rw [q] at h1
    exact h1.elim
  | some xs =>
    rw [q] at h1
    obtain ⟨i, j, e1, e2, e3⟩ := rng2_ok q
    subst e1
    subst e3
    obtain ⟨v, u, e, q, q'⟩ := reps2 z1.2
    have e4 : v = .int i := q
    have e5 : u = .int j := q'
    subst e4
    subst e5
    have hi := inR_ok e2.1
    have hj := inR_ok e2.2
    exact ⟨i, j, e, ⟨hi.1, hi.2, hj.1, hj.2⟩, h1 S1 H1 _ Gr.refl ⟨z1.1, itd_range⟩⟩
/-! ### a def -/
abbrev Sem := List D → Option (Res (D × Kd))
def endsOf : Option (Res Out × M) → Option (Res (D × Kd))
  | some (.ok (.ret d k), _) => some (.ok (d, k))
  | some (.ok .nx, _) => some (.ok (.non, .z))
  | some (.exn e, _) => some (.exn e)
  | _ => none
def mu0 (n : Nat) (ds : List D) : M := ds.map (fun d => some (d, .z)) ++ List.replicate (n - ds.length) none
/-- a def of n slots as a function of its arguments -/
def semF (p n : Nat) (m : MS) : Sem := fun ds => if ds.length = p then endsOf (m (mu0 n ds)) else none
theorem semF_len {p n : Nat} {m : MS} {ds : List D} (h : (semF p n m ds).isSome = true) : ds.length = p := by
  unfold semF at h
  split at h
  · assumption
  · cases h
/-- its promise; S: what the callers own -/
def spF (K : Frag) (mg : Str → Option Value) (n : Nat) (sem : Sem) : Sp := fun vs H Q E => ∃ ds S, (∀ a ∈ S, H a ≠ none) ∧ Reps K (mask H S) ds vs ∧ ds.length = n ∧ match sem ds with
  | none => False
  | some (.ok dk) => ∀ S' H' v, Gr [] H S' H' → R K S S' H' [some v] [some dk] → Q v H'
  | some (.exn e) => ∀ S' H' cls dc, Gr [] H S' H' → (∀ a ∈ S', H' a ≠ none) → ExR K mg (S ++ S') cls dc H' e → E cls dc H'
theorem spF_len {K : Frag} {mg : Str → Option Value} {n : Nat} {sem : Sem} (vs : List V) (H : Hp) (Q : VK) (E : XK) (h : spF K mg n sem vs H Q E) : vs.length = n := by
  obtain ⟨ds, S, _, r, e, _⟩ := h
  rw [r.length, e]
theorem sls_mu0 {K : Frag} {S : List Addr} {H : Hp} : ∀ {ds : List D} {vs : List V} {j : Nat}, Reps K (mask H S) ds vs → Sls (own K S H) (vs.map some ++ List.replicate j none) (ds.map (fun d => some (d, .z)) ++ List.replicate j none) []
  | [], vs, j, h => by
    have e : vs = [] := h
    subst e
    induction j with
    | zero => exact rfl
    | succ j ih => exact ih
  | d :: ds, vs, j, h => by
    obtain ⟨v, r, e, h1, h2⟩ := h
    subst e
    exact ⟨v, [], [], rfl, rfl, ⟨rfl, h1⟩, sls_mu0 h2⟩
theorem R.begin {K : Frag} {S : List Addr} {H : Hp} {N : List Str} {ds : List D} {vs : List V} (t : ∀ a ∈ S, H a ≠ none) (r : Reps K (mask H S) ds vs) : R K S [] H (L2.start N vs) (mu0 N.length ds) where
  t0 := t
  dis := fun _ z => nomatch z
  nd := List.nodup_nil
  sl := by
    unfold L2.start mu0
    rw [r.length, List.append_nil]
    exact sls_mu0 r
/-- the value alone -/
theorem R.head {K : Frag} {S0 S : List Addr} {H : Hp} {σ : List (Option V)} {μ : M} {dk : D × Kd} {v : V} (r : R K S0 S H (some v :: σ) (some dk :: μ)) : ∃ S', (∀ a ∈ S', a ∈ S) ∧ R K S0 S' H [some v] [some dk] := by
  obtain ⟨d, k⟩ := dk
  obtain ⟨v', S1, S2, e1, e2, h1, h2⟩ := id r.sl
  cases e1
  have nd := r.nd
  rw [e2] at nd
  have sub : ∀ a ∈ S1, a ∈ S := fun a ha => by
    rw [e2]
    exact List.mem_append_left _ ha
  exact ⟨S1, sub, r.shrink ⟨v, S1, [], rfl, by simp, h1, rfl⟩ sub (List.nodup_append.mp nd).1⟩
/-- THE RULE of a def whose arguments stay -/
theorem fnF {P : Program} {w : World} {K : Frag} {mg : Str → Option Value} {base : Heap} {x qual : Str} {params : Arguments} {body : List Stmt} {scope : Scope} {dvs : List V} {kws : List (Str × V)} {f : Addr} {fd : FuncData} {N ps : List Str} {k : Nat} {m : MS}
    (F : FunD K x qual params body scope dvs kws f fd) (S : FnScope N ps scope)
    (hb : ∀ (cdv : Value) (A : Around) (outer : List Env) (s : Shared) (H : Hp) (E : XK), Room k (A.deeper (envOfC qual scope s.heap.objs.size f cdv)) →
      JB (cxOf (L2.CX P w) P w K mg base N qual scope f cdv A outer s H E) (fun cls d _ H => E cls d H) false body m) :
    FnOk P w K mg base (L2.CX P w) (k + 1) f fd ps (spF K mg ps.length (semF ps.length N.length m)) := by
  refine F.ok S spF_len fun cdv A outer s H vs Q E hr h => ⟨_, hb cdv A outer s H E hr, ?_⟩
  obtain ⟨ds, S1, t, r, e, h⟩ := h
  refine ⟨S1, [], mu0 N.length ds, R.begin t r, ?_⟩
  unfold semF endsOf at h
  rw [if_pos e] at h
  match q : m (mu0 N.length ds), h with
  | some (.ok (.ret d k), μ'), h =>
    intro S' H' σ' v g kp r'
    obtain ⟨S2, sub, r2⟩ := r'.head
    exact h S2 H' v ⟨g.keep, fun a ha => g.new a (sub a ha)⟩ r2
  | some (.ok .nx, μ'), h =>
    intro S' H' σ' g kp r'
    exact h [] H' .non ⟨g.keep, (fun _ z => nomatch z)⟩ ⟨fun a ha => r'.t0 a ha, (fun _ z => nomatch z), List.nodup_nil, ⟨.non, [], [], rfl, rfl, ⟨rfl, rfl⟩, rfl⟩⟩
  | some (.exn e, μ'), h =>
    intro S' H' σ' cls dc g kp r' x
    exact h S' H' cls dc g (fun a ha => r'.tr a (List.mem_append_right _ ha)) x
  | some (.ok .cont, μ'), h =>
    exact h.elim
  | some (.ok .brk, μ'), h =>
    exact h.elim
  | none, h =>
    exact h.elim

/-! ### a call -/
def cl (μ : M) : Option (Res (D × Kd)) → Option (Res (D × Kd) × M)
  | none => none
  | some r => some (r, μ)
def mCall (sem : Sem) (a : EV (List D)) : EV (D × Kd) := bnd a fun ds => fun μ => cl μ (sem ds)
/-- behind a call: what the callee made is owned ahead -/
theorem R.after {K : Frag} {S0 S S' : List Addr} {H H' : Hp} {σ : List (Option V)} {μ : M} {dk : D × Kd} {v : V} (r : R K S0 S H σ μ) (g : Gr [] H S' H') (q : R K (S0 ++ S) S' H' [some v] [some dk]) : R K S0 (S' ++ S) H' (some v :: σ) (some dk :: μ) ∧ Gr S H (S' ++ S) H' := by
  have nw : ∀ a ∈ S', H a = none := fun a ha => (g.new a ha).elim (fun z => nomatch z) fun z => z
  have ex : Ex H H' := fun a o e => g.keep a o e fun z => nomatch z
  have dj : ∀ a ∈ S', a ∉ S := fun a ha hb => r.tr a (List.mem_append_right _ hb) (nw a ha)
  have dj0 : ∀ a ∈ S', a ∉ S0 := fun a ha hb => r.t0 a hb (nw a ha)
  obtain ⟨d, k⟩ := dk
  obtain ⟨v', S1, S2, e1, e2, h1, h2⟩ := q.sl
  cases e1
  have e3 : S2 = [] := h2
  subst e3
  rw [List.append_nil] at e2
  subst e2
  have m1 : Ex (mask H' (S0 ++ S ++ S')) (mask H' (S0 ++ (S' ++ S))) := mask_mono fun a o n e => ⟨fun z => n (by
    rcases List.mem_append.mp z with z | z
    · exact List.mem_append_left _ (List.mem_append_left _ z)
    · rcases List.mem_append.mp z with z | z
      · exact List.mem_append_right _ z
      · exact List.mem_append_left _ (List.mem_append_right _ z)), e⟩
  have m2 : Ex (mask H (S0 ++ S)) (mask H' (S0 ++ (S' ++ S))) := mask_mono fun a o n e => ⟨fun z => by
    rcases List.mem_append.mp z with z | z
    · exact n (List.mem_append_left _ z)
    · rcases List.mem_append.mp z with z | z
      · rw [nw a z] at e
        cases e
      · exact n (List.mem_append_right _ z), ex a o e⟩
  refine ⟨⟨(r.ex ex).t0, fun a ha => ?_, ?_, ⟨v, S', S, rfl, rfl, h1.mono m1 fun _ _ => rfl, r.sl.mono fun k d v T hT q => q.mono m2 fun a ha => ?_⟩⟩, ⟨fun a o e n => ex a o e, fun a ha => ?_⟩⟩
  · rcases List.mem_append.mp ha with ha | ha
    · exact dj0 a ha
    · exact r.dis a ha
  · exact List.nodup_append.mpr ⟨q.nd, r.nd, fun a ha b hb e => dj a ha (e ▸ hb)⟩
  · rcases List.mem_append.mp ha with ha | ha
    · exact .inr (nw a ha)
    · exact .inl ha
  · cases z : H a with
    | none => exact absurd z (r.tr a (List.mem_append_right _ (hT a ha)))
    | some o => rw [ex a o z]
theorem call_run {K : Frag} {mg : Str → Option Value} {n : Nat} {sem : Sem} {dvs : List V} {dds : List D} (hd : ∀ F, Reps K F dds dvs) (hn : ∀ ds, (sem (ds ++ dds)).isSome = true → (ds ++ dds).length = n) {σ : Sg} {H : Hp} {Q : VK} (h : tO K mg W (mCall sem (bnd ms fun ds => giv (ds ++ dds))) σ H Q) :
    tCallSD (spF K mg n sem) dvs (WE W) (tA K mg W ms) σ H Q := by
  obtain ⟨S0, S, μ, rr, h⟩ := h
  have h0 : Post K mg W S0 S σ H (ZO K S0 σ) (bnd ms (fun ds => fun μ => cl μ (sem (ds ++ dds))) μ) Q := by
    unfold mCall at h
    rw [bnd_def] at h ⊢
    rw [bnd_def] at h
    match q : ms μ, h with
    | none, h => exact h
    | some (.exn e, μ'), h => exact h
    | some (.ok ds, μ'), h => exact h
  refine ⟨S0, S, μ, rr, Post.bnd (Z' := ZFs K S0 σ) h0 fun S1 H1 μ1 ds vs g1 z1 h1 => ?_⟩
  refine ⟨ds ++ dds, S0 ++ S1, z1.1.tr, z1.2.append (hd _), ?_⟩
  match q : sem (ds ++ dds), h1 with
  | none, h1 => exact h1.elim
  | some (.ok dk), h1 =>
    refine ⟨hn ds (by rw [q]; rfl), ?_⟩
    intro S' H' v g r'
    obtain ⟨r2, g2⟩ := z1.1.after g r'
    exact h1 (S' ++ S1) H' v g2 r2
  | some (.exn e), h1 =>
    refine ⟨hn ds (by rw [q]; rfl), ?_⟩
    intro S' H' cls dc g t' x
    have ex : Ex H1 H' := fun a o e => g.keep a o e fun z => nomatch z
    refine h1 S1 H' cls dc (Gr.ex ex) (z1.1.ex ex) ?_
    obtain ⟨C, c1, c2, c3⟩ := x
    refine ⟨C, c1, c2, ?_⟩
    rcases c3 with c3 | ⟨dd, fvs, e1, e2, e3, e4, e5⟩
    · exact .inl c3
    · refine .inr ⟨dd, fvs, e1, e2, fun z => e3 (List.mem_append_left _ z), e4, e5.ex (mask_mono fun a o n e => ⟨fun z => n (List.mem_append_left _ z), e⟩)⟩
variable {k n : Nat} {f : Addr} {fd : FuncData} {ps : List Str} {sem : Sem} {x : Str}
/-- f(e, ..) -/
theorem jo_call {dvs : List V} {dds : List D} {ds : List Value} (F : FnOk X.prog X.w X.K X.mg X.base (L2.CX X.prog X.w) k f fd ps (spF X.K X.mg n sem)) (hr : Room k X.A) (hg : Gl X x) (hm : X.mg x = some (.ref f)) (hk : PySem.W.keepIn X.K (.ref f) = true) (hb : Binds X.K fd ps ds) (hdv : Vals dvs ds) (hdd : ∀ F, Reps X.K F dds dvs)
    (tk : Takes X W) (hn : ∀ ds, (sem (ds ++ dds)).isSome = true → (ds ++ dds).length = n) (ha : JA X W (e :: es) ms) (hdb : (x == ("__debug__" : Str)) = false := by decide) (he : starEach (e :: es) X.env = (false, eval e X.env) :: starEach es X.env := by rfl) (hpl : (backTo pos (starEach es X.env)).any (·.1) = false := by rfl) :
    JO X W (.Call (.Name x p) (e :: es) [] pos) (mCall sem (bnd ms fun ds => giv (ds ++ dds))) :=
  pe_imp (pe_callSD F hr hg hm hk hb hdv (E := WE W) (fun σ => passAt tk σ) ha hdb he hpl) fun σ H Q h => call_run hdd hn h
/-- the value frozen -/
def unO (m : EV (D × Kd)) : EV D := bnd m fun dk => giv dk.1
theorem j_unO {mo : EV (D × Kd)} (h : JO X W e mo) : JF X W e (unO mo) := pe_imp h fun σ H Q h => by
  obtain ⟨S0, S, μ, rr, h⟩ := h
  refine ⟨S0, S, μ, rr, Post.bnd (Z' := ZO X.K S0 σ) h fun S1 H1 μ1 dk v g1 z1 h1 => ?_⟩
  obtain ⟨d, k⟩ := dk
  obtain ⟨S', sub, r', q⟩ := R.pop z1
  exact h1 S' H1 v (gr_sub sub) ⟨r', q⟩
/-! ### raise -/
def mRaise (e : Exn) : MS := fun μ => some (.exn e, μ)
theorem js_raise {cls : Str} {C : Addr} {t : Sg → Hp → XK → Prop} (hc : X.calm = true) (tk : Takes X W) (he : PMk X e t) (hC : X.mg cls = some (.ref C)) (ht : ∀ σ H (Q : XK), Q (.ref C) none H → t σ H Q) : JS X W pin (.Raise (some e) none pos) (mRaise ⟨cls, []⟩) := ps_imp (ps_raise hc tk he) fun D σ H h => by
  obtain ⟨S0, S, μ, r, h⟩ := h
  exact ht σ H _ (h S H σ (.ref C) none Gr.refl Keep.refl r ⟨C, hC, rfl, .inl rfl⟩)
/-- a def that may be called by its name -/
def Cal (P : Program) (w : World) (K : Frag) (mg : Str → Option Value) (base : Heap) (k : Nat) (x : Str) (n : Nat) (sem : Sem) : Prop :=
  ∃ f fd ps, FnOk P w K mg base (L2.CX P w) k f fd ps (spF K mg n sem) ∧ mg x = some (.ref f) ∧ PySem.W.keepIn K (.ref f) = true ∧ Binds K fd ps [] ∧ ∀ ds, (sem ds).isSome = true → ds.length = n
/-- f(e, ..) of such a def -/
theorem jo_cal {j k n : Nat} {sem : Sem} {x : Str} (C : Cal X.prog X.w X.K X.mg X.base k x n sem) (hr : Room j X.A) (hj : k ≤ j) (hg : Gl X x) (tk : Takes X W) (ha : JA X W (e :: es) ms)
    (hdb : (x == ("__debug__" : Str)) = false := by decide) (he : starEach (e :: es) X.env = (false, eval e X.env) :: starEach es X.env := by rfl) (hpl : (backTo pos (starEach es X.env)).any (·.1) = false := by rfl) : JO X W (.Call (.Name x p) (e :: es) [] pos) (mCall sem ms) := by
  obtain ⟨f, fd, ps, F, hm, hk, hb, hn⟩ := C
  have z := jo_call (X := X) (W := W) (ms := ms) (p := p) (pos := pos) (dvs := []) (dds := []) F (hr.mono hj) hg hm hk hb .nil (fun _ => rfl) tk (fun ds q => by rw [List.append_nil] at q ⊢; exact hn ds q) ha hdb he hpl
  have e1 : (bnd ms fun ds => giv (ds ++ [])) = ms := by
    funext μ
    rw [bnd_def]
    match ms μ with
    | none => rfl
    | some (.exn e, μ') => rfl
    | some (.ok ds, μ') =>
      show some (Res.ok (ds ++ []), μ') = _
      rw [List.append_nil]
  rw [e1] at z
  exact z
abbrev j_cal {j k n : Nat} {sem : Sem} {x : Str} (C : Cal X.prog X.w X.K X.mg X.base k x n sem) (hr : Room j X.A) (hj : k ≤ j) (hg : Gl X x) (tk : Takes X W) (ha : JA X W (e :: es) ms)
    (hdb : (x == ("__debug__" : Str)) = false := by decide) (he : starEach (e :: es) X.env = (false, eval e X.env) :: starEach es X.env := by rfl) (hpl : (backTo pos (starEach es X.env)).any (·.1) = false := by rfl) : JF X W (.Call (.Name x p) (e :: es) [] pos) (unO (mCall sem ms)) := j_unO (jo_cal C hr hj hg tk ha hdb he hpl)
theorem cal_of {P : Program} {w : World} {K : Frag} {mg : Str → Option Value} {base : Heap} {x qual : Str} {params : Arguments} {body : List Stmt} {scope : Scope} {f : Addr} {N ps : List Str} {k : Nat} {m : MS}
    (F : ∃ fd, FunD K x qual params body scope [] [] f fd) (S : FnScope N ps scope) (gx : mg x = some (.ref f)) (hb : ∀ (fd : FuncData), FunD K x qual params body scope [] [] f fd → Binds K fd ps [])
    (h : ∀ (cdv : Value) (A : Around) (outer : List Env) (s : Shared) (H : Hp) (E : XK), Room k (A.deeper (envOfC qual scope s.heap.objs.size f cdv)) → Takes (cxOf (L2.CX P w) P w K mg base N qual scope f cdv A outer s H E) (fun cls d _ H => E cls d H) →
      JB (cxOf (L2.CX P w) P w K mg base N qual scope f cdv A outer s H E) (fun cls d _ H => E cls d H) false body m) : Cal P w K mg base (k + 1) x ps.length (semF ps.length N.length m) := by
  obtain ⟨fd, F⟩ := F
  exact ⟨f, fd, ps, fnF F S fun cdv A outer s H E hr => h cdv A outer s H E hr (takes_of (E := E) rfl rfl rfl rfl), gx, F.kp, hb fd F, fun ds q => semF_len q⟩
theorem j_gint {x : Str} {i : Int} (hg : Gl X x) (hm : ∃ t, X.mg x = some (.int i t)) (hd : (x == ("__debug__" : Str)) = false := by decide) : JF X W (.Name x p) (giv (.int i)) := by
  obtain ⟨t, hm⟩ := hm
  exact j_glob hg hm (v := .int i) ⟨t, rfl⟩ (fun _ => rfl) hd
/-- what the top has written of an exception class without __init__ -/
structure ExcF (K : Frag) (mg : Str → Option Value) (x : Str) : Prop where
  ex : ∃ C, mg x = some (.ref C) ∧ PySem.W.excIn K C He.veBase "ValueError.__new__" = true ∧ PySem.W.keepIn K (.ref C) = true ∧ PySem.W.subIn K (.ref C) (.type "BaseException") = some true ∧ PySem.W.typeIn K (.ref C) = some (.type "type")
/-- raise C('..') -/
theorem js_raise0 {x m : Str} {j : Nat} {p p2 pos pos2 : Pos} (hc : X.calm = true) (T : ExcF X.K X.mg x) (hg : Gl X x) (tk : Takes X W) (hdb : (x == ("__debug__" : Str)) = false := by decide) : JS X W pin (.Raise (some (.Call (.Name x p) [.Constant (.str m) j p2] [] pos)) none pos2) (mRaise ⟨x, []⟩) := by
  obtain ⟨C, gC, q, kC, bC, tC⟩ := T.ex
  exact js_raise hc tk (pmk_own PySem.F.excBase_ValueError q gC kC (raises_own bC tC) hg hdb) gC fun σ H Q z => z
end
end Mn
end
section
/-! Mn: a first argument that is changed in place; items of owned lists; the operations. -/
namespace Mn
open PySem PySem.Spec PyProof.Rows L2

/-! ### defs that change their first argument -/
abbrev SemIO := D × Kd → List D → Option (Res (D × Kd) × (D × Kd))
def endsIO : Option (Res Out × M) → Option (Res (D × Kd) × (D × Kd))
  | some (.ok (.ret d k), some dk :: _) => some (.ok (d, k), dk)
  | some (.ok .nx, some dk :: _) => some (.ok (.non, .z), dk)
  | some (.exn e, some dk :: _) => some (.exn e, dk)
  | _ => none
def semIO (p n : Nat) (m : MS) : SemIO := fun dk ds => if ds.length + 1 = p then endsIO (m (some dk :: mu0 (n - 1) ds)) else none
theorem semIO_len {p n : Nat} {m : MS} {dk : D × Kd} {ds : List D} (h : (semIO p n m dk ds).isSome = true) : ds.length + 1 = p := by
  unfold semIO at h
  split at h
  · assumption
  · cases h
def spIO (K : Frag) (mg : Str → Option Value) (n : Nat) (sem : SemIO) : Sp := fun vs H Q E => ∃ v0 rest dk0 ds S0 S, vs = v0 :: rest ∧ ds.length + 1 = n ∧ R K S0 S H [some v0] [some dk0] ∧ Reps K (mask H (S0 ++ S)) ds rest ∧ match sem dk0 ds with
  | none => False
  | some (.ok dk, dk0') => ∀ S' H' v, Gr S H S' H' → R K S0 S' H' [some v, some v0] [some dk, some dk0'] → Q v H'
  | some (.exn e, dk0') => ∀ S' H' cls dc, Gr S H S' H' → R K S0 S' H' [some v0] [some dk0'] → ExR K mg (S0 ++ S') cls dc H' e → E cls dc H'
theorem spIO_len {K : Frag} {mg : Str → Option Value} {n : Nat} {sem : SemIO} (vs : List V) (H : Hp) (Q : VK) (E : XK) (h : spIO K mg n sem vs H Q E) : vs.length = n := by
  obtain ⟨v0, rest, dk0, ds, S0, S, e, e2, _, r, _⟩ := h
  rw [e, List.length_cons, r.length, e2]
theorem Sls.app_none {f : Kd → D → V → List Addr → Prop} : ∀ {σ : List (Option V)} {μ : M} {S : List Addr} {τ : List (Option V)} {ν : M}, Sls f σ μ S → Sls f τ ν [] → Sls f (σ ++ τ) (μ ++ ν) S
  | [], [], _, τ, ν, h, q => by
    have e : _ = [] := h
    subst e
    exact q
  | x :: σ, none :: μ, S, τ, ν, h, q => by
    have h' : Sls f σ μ S := h
    exact h'.app_none q
  | x :: σ, some (d, k) :: μ, S, τ, ν, h, q => by
    obtain ⟨v, S1, S2, e1, e2, h1, h2⟩ := h
    exact ⟨v, S1, S2, e1, e2, h1, h2.app_none q⟩
  | [], _ :: _, _, _, _, h, _ => h.elim
  | _ :: _, [], _, _, _, h, _ => h.elim
theorem Sls.prefix {f : Kd → D → V → List Addr → Prop} : ∀ {σ : List (Option V)} {μ : M} {S : List Addr} (n : Nat), Sls f σ μ S → ∃ S', Sls f (σ.take n) (μ.take n) S' ∧ S'.Sublist S
  | [], [], S, n, h => by
    cases n <;> exact ⟨S, h, List.Sublist.refl _⟩
  | x :: σ, y :: μ, S, 0, h => ⟨[], rfl, List.nil_sublist _⟩
  | x :: σ, none :: μ, S, n + 1, h => by
    have h' : Sls f σ μ S := h
    obtain ⟨S', h1, h2⟩ := h'.prefix n
    exact ⟨S', h1, h2⟩
  | x :: σ, some (d, k) :: μ, S, n + 1, h => by
    obtain ⟨v, S1, S2, e1, e2, h1, h2⟩ := h
    obtain ⟨S', h3, h4⟩ := h2.prefix n
    exact ⟨S1 ++ S', ⟨v, S1, S', e1, rfl, h1, h3⟩, by rw [e2]; exact List.Sublist.append_left h4 S1⟩
  | [], _ :: _, _, _, h => h.elim
  | _ :: _, [], _, _, h => h.elim
theorem R.prefix {K : Frag} {S0 S : List Addr} {H : Hp} {σ : List (Option V)} {μ : M} (r : R K S0 S H σ μ) (n : Nat) : ∃ S', (∀ a ∈ S', a ∈ S) ∧ R K S0 S' H (σ.take n) (μ.take n) := by
  obtain ⟨S', h, p⟩ := r.sl.prefix n
  exact ⟨S', fun a ha => p.subset ha, r.shrink h (fun a ha => p.subset ha) (p.nodup r.nd)⟩
theorem fnIO {P : Program} {w : World} {K : Frag} {mg : Str → Option Value} {base : Heap} {x qual : Str} {params : Arguments} {body : List Stmt} {scope : Scope} {dvs : List V} {kws : List (Str × V)} {f : Addr} {fd : FuncData} {N ps : List Str} {k : Nat} {m : MS}
    (F : FunD K x qual params body scope dvs kws f fd) (S : FnScope N ps scope) (hN : 0 < N.length)
    (hb : ∀ (cdv : Value) (A : Around) (outer : List Env) (s : Shared) (H : Hp) (E : XK), Room k (A.deeper (envOfC qual scope s.heap.objs.size f cdv)) →
      JB (cxOf (L2.CX P w) P w K mg base N qual scope f cdv A outer s H E) (fun cls d _ H => E cls d H) true body m) :
    FnOk P w K mg base (L2.CX P w) (k + 1) f fd ps (spIO K mg ps.length (semIO ps.length N.length m)) := by
  refine F.ok S spIO_len fun cdv A outer s H vs Q E hr h => ⟨_, hb cdv A outer s H E hr, ?_⟩
  obtain ⟨v0, rest, dk0, ds, S0, S1, e, e2, r, q, h⟩ := h
  subst e
  have es : L2.start N (v0 :: rest) = [some v0] ++ (rest.map some ++ List.replicate (N.length - 1 - ds.length) none) := by
    unfold L2.start
    rw [List.length_cons, q.length, List.map_cons]
    have : N.length - (ds.length + 1) = N.length - 1 - ds.length := by omega
    rw [this]
    rfl
  have hR : R K S0 S1 H (L2.start N (v0 :: rest)) (some dk0 :: mu0 (N.length - 1) ds) := by
    rw [es]
    exact ⟨r.t0, r.dis, r.nd, r.sl.app_none (sls_mu0 q)⟩
  refine ⟨S0, S1, some dk0 :: mu0 (N.length - 1) ds, hR, ?_⟩
  have e0 : (L2.start N (v0 :: rest))[0]? = some (some v0) := by
    rw [es]
    rfl
  have two : ∀ {S' : List Addr} {H' : Hp} {σ' : Sg} {μ' : M} {dk0' : D × Kd}, Keep true (L2.start N (v0 :: rest)) σ' → R K S0 S' H' σ' (some dk0' :: μ') → ∃ σ2, σ' = some v0 :: σ2 := fun {S' H' σ' μ' dk0'} kp r' => by
    have h0 := (kp rfl).trans e0
    cases σ' with
    | nil => simp at h0
    | cons y σ2 =>
      have h1 : y = some v0 := by simpa using h0
      exact ⟨σ2, by rw [h1]⟩
  unfold semIO at h
  rw [if_pos e2] at h
  match q2 : m (some dk0 :: mu0 (N.length - 1) ds), h with
  | some (.ok (.ret d k), some dk0' :: μ'), h =>
    intro S' H' σ' v g kp r'
    have rr : R K S0 S' H' (some v :: σ') (some (d, k) :: some dk0' :: μ') := r'
    have hl := rr.sl.len
    obtain ⟨σ2, e3⟩ : ∃ σ2, σ' = some v0 :: σ2 := by
      have h0 := (kp rfl).trans e0
      cases σ' with
      | nil => simp at h0
      | cons y σ2 =>
        have h1 : y = some v0 := by simpa using h0
        exact ⟨σ2, by rw [h1]⟩
    subst e3
    obtain ⟨S2, sub, r2⟩ := rr.prefix 2
    exact h S2 H' v ⟨g.keep, fun a ha => g.new a (sub a ha)⟩ r2
  | some (.ok .nx, some dk0' :: μ'), h =>
    intro S' H' σ' g kp r'
    have r'' : R K S0 S' H' σ' (some dk0' :: μ') := r'
    obtain ⟨σ2, e3⟩ := two kp r''
    subst e3
    obtain ⟨S2, sub, r2⟩ := (r''.push (d := .non) (v := .non) rfl).prefix 2
    exact h S2 H' .non ⟨g.keep, fun a ha => g.new a (sub a ha)⟩ r2
  | some (.exn e, some dk0' :: μ'), h =>
    intro S' H' σ' cls dc g kp r' x
    have r'' : R K S0 S' H' σ' (some dk0' :: μ') := r'
    obtain ⟨σ2, e3⟩ := two kp r''
    subst e3
    obtain ⟨S2, sub, r2⟩ := r''.prefix 1
    refine h S2 H' cls dc ⟨g.keep, fun a ha => g.new a (sub a ha)⟩ r2 ?_
    obtain ⟨C, c1, c2, c3⟩ := x
    refine ⟨C, c1, c2, ?_⟩
    rcases c3 with c3 | ⟨dd, fvs, e1, e2, e3, e4, e5⟩
    · exact .inl c3
    · exact .inr ⟨dd, fvs, e1, e2, fun z => e3 (by
        rcases List.mem_append.mp z with z | z
        · exact List.mem_append_left _ z
        · exact List.mem_append_right _ (sub _ z)), e4, e5.ex (mask_sub sub)⟩
  | some (.ok (.ret d k), none :: μ'), h => exact h.elim
  | some (.ok (.ret d k), []), h => exact h.elim
  | some (.ok .nx, none :: μ'), h => exact h.elim
  | some (.ok .nx, []), h => exact h.elim
  | some (.exn e, none :: μ'), h => exact h.elim
  | some (.exn e, []), h => exact h.elim
  | some (.ok .cont, μ'), h => exact h.elim
  | some (.ok .brk, μ'), h => exact h.elim
  | none, h => exact h.elim

section
variable {X : Cx} {W : WX} {pin : Bool} {tg e : Expr} {es : List Expr} {m mi : EV D} {ms : EV (List D)} {pos p : Pos}
/-- a slot that holds something -/
def hs {α : Type} (r : Option (Res α × M)) : Option (Option (D × Kd)) → Option (Res α × M)
  | some (some _) => r
  | _ => none
def has (i : Nat) {α : Type} (a : EV α) : EV α := fun μ => hs (a μ) μ[i]?
theorem has_run {α β : Type} {K : Frag} {mg : Str → Option Value} {S0 S : List Addr} {σ : Sg} {H : Hp} {Z : List Addr → Hp → M → α → β → Prop} {i : Nat} {a : EV α} {μ : M} {Q : β → Hp → Prop} (h : Post K mg W S0 S σ H Z (has i a μ) Q) (r : R K S0 S H σ μ) :
    ∃ v, σ[i]? = some (some v) ∧ Post K mg W S0 S σ H Z (a μ) Q := by
  unfold has hs at h
  split at h
  · rename_i x dk q
    obtain ⟨d, k⟩ := dk
    obtain ⟨v, S1, S2, e1, _⟩ := r.sl.take q
    exact ⟨v, e1, h⟩
  · exact h.elim
theorem has_runS {K : Frag} {mg : Str → Option Value} {S0 S : List Addr} {σ : Sg} {H : Hp} {i : Nat} {a : MS} {μ : M} {En : Ends} (h : PostS K mg W pin S0 S σ H (has i a μ) En) (r : R K S0 S H σ μ) :
    ∃ v, σ[i]? = some (some v) ∧ PostS K mg W pin S0 S σ H (a μ) En := by
  unfold has hs at h
  split at h
  · rename_i x dk q
    obtain ⟨d, k⟩ := dk
    obtain ⟨v, S1, S2, e1, _⟩ := r.sl.take q
    exact ⟨v, e1, h⟩
  · exact h.elim
/-- f(x, e, ..): x, in slot i, is changed in place -/
def ci (i : Nat) (μ : M) : Option (Res (D × Kd) × (D × Kd)) → Option (Res (D × Kd) × M)
  | none => none
  | some (r, dk0') => some (r, μ.set i (some dk0'))
def cj (i : Nat) (sem : SemIO) (ds : List D) (μ : M) : Option (Option (D × Kd)) → Option (Res (D × Kd) × M)
  | some (some dk0) => ci i μ (sem dk0 ds)
  | _ => none
def mCallIO (i : Nat) (sem : SemIO) (a : EV (List D)) : EV (D × Kd) := has i (bnd a fun ds => fun μ => cj i sem ds μ μ[i]?)
/-- a slot's value lent to a callee, and back -/
theorem R.lend {K : Frag} {S0 S : List Addr} {H : Hp} {σ : List (Option V)} {μ : M} {i : Nat} {d : D} {k : Kd} {v : V} (r : R K S0 S H σ μ) (h : μ[i]? = some (some (d, k))) (hv : σ[i]? = some (some v)) :
    ∃ Sa Sb, R K (S0 ++ Sb) Sa H [some v] [some (d, k)] ∧ Ex (mask H (S0 ++ S)) (mask H (S0 ++ Sb ++ Sa)) ∧ (∀ a ∈ Sa, a ∈ S) ∧ (∀ a ∈ Sb, a ∈ S) ∧ (∀ a ∈ S, a ∈ Sa ∨ a ∈ Sb) ∧
      (∀ {H' : Hp} {S' : List Addr} {τ : List (Option V)} {ν : M} {dk' : D × Kd}, Gr Sa H S' H' → R K (S0 ++ Sb) S' H' (τ ++ [some v]) (ν ++ [some dk']) → τ.length = ν.length → ∃ S2, Gr S H S2 H' ∧ R K S0 S2 H' (τ ++ σ) (ν ++ μ.set i (some dk')) ∧ (∀ a, a ∈ S2 ↔ a ∈ S' ∨ a ∈ Sb)) := by
  obtain ⟨v', Sa, Sb, e1, h1, h2, p⟩ := r.sl.take h
  rw [hv] at e1
  cases e1
  have ma : ∀ a ∈ Sa, a ∈ S := fun a ha => p.mem_iff.mpr (List.mem_append_left _ ha)
  have mb : ∀ a ∈ Sb, a ∈ S := fun a ha => p.mem_iff.mpr (List.mem_append_right _ ha)
  have mm : ∀ a ∈ S, a ∈ Sa ∨ a ∈ Sb := fun a ha => List.mem_append.mp (p.mem_iff.mp ha)
  have nd : (Sa ++ Sb).Nodup := p.nodup_iff.mp r.nd
  have dj : ∀ a ∈ Sa, a ∉ Sb := fun a ha hb => (List.nodup_append.mp nd).2.2 a ha a hb rfl
  have ex : Ex (mask H (S0 ++ S)) (mask H (S0 ++ Sb ++ Sa)) := mask_mono fun a o n e => ⟨fun z => n (by
    rcases List.mem_append.mp z with z | z
    · rcases List.mem_append.mp z with z | z
      · exact List.mem_append_left _ z
      · exact List.mem_append_right _ (mb a z)
    · exact List.mem_append_right _ (ma a z)), e⟩
  refine ⟨Sa, Sb, ⟨fun a ha => ?_, fun a ha z => ?_, (List.nodup_append.mp nd).1, ⟨v, Sa, [], rfl, by simp, h1.mono ex fun _ _ => rfl, rfl⟩⟩, ex, ma, mb, mm, fun {H' S' τ ν dk'} g q hl => ?_⟩
  · rcases List.mem_append.mp ha with ha | ha
    · exact r.t0 a ha
    · exact r.tr a (List.mem_append_right _ (mb a ha))
  · rcases List.mem_append.mp z with z | z
    · exact r.dis a (ma a ha) z
    · exact dj a ha z
  · obtain ⟨d', k'⟩ := dk'
    -- the callee's part split: temporaries, the value lent
    have split : ∀ {τ : List (Option V)} {ν : M} {T : List Addr}, τ.length = ν.length → Sls (own K (S0 ++ Sb ++ S') H') (τ ++ [some v]) (ν ++ [some (d', k')]) T → ∃ T1 T2, T = T1 ++ T2 ∧ Sls (own K (S0 ++ Sb ++ S') H') τ ν T1 ∧ own K (S0 ++ Sb ++ S') H' k' d' v T2 := by
      intro τ
      induction τ with
      | nil =>
        intro ν T hl hs
        cases ν with
        | nil =>
          obtain ⟨u, T1, T2, e1, e2, q1, q2⟩ := hs
          cases e1
          have e3 : T2 = [] := q2
          subst e3
          exact ⟨[], T1, by rw [e2]; simp, rfl, q1⟩
        | cons y ν => simp at hl
      | cons x τ ih =>
        intro ν T hl hs
        cases ν with
        | nil => simp at hl
        | cons y ν =>
          cases y with
          | none =>
            have hs' : Sls (own K (S0 ++ Sb ++ S') H') (τ ++ [some v]) (ν ++ [some (d', k')]) T := hs
            obtain ⟨T1, T2, e1, q1, q2⟩ := ih (by simpa using hl) hs'
            exact ⟨T1, T2, e1, q1, q2⟩
          | some dk =>
            obtain ⟨d1, k1⟩ := dk
            obtain ⟨u, U1, U2, e1, e2, q1, q2⟩ := hs
            obtain ⟨T1, T2, e3, q3, q4⟩ := ih (by simpa using hl) q2
            exact ⟨U1 ++ T1, T2, by rw [e2, e3, List.append_assoc], ⟨u, U1, T1, e1, rfl, q1, q3⟩, q4⟩
    obtain ⟨T1, T2, eT, q1, q2⟩ := split hl q.sl
    have mT1 : ∀ a ∈ T1, a ∈ S' := fun a ha => by rw [eT]; exact List.mem_append_left _ ha
    have mT2 : ∀ a ∈ T2, a ∈ S' := fun a ha => by rw [eT]; exact List.mem_append_right _ ha
    have ndT : (T1 ++ T2).Nodup := by rw [← eT]; exact q.nd
    have new : ∀ a ∈ S', a ∈ Sa ∨ H a = none := g.new
    have djb : ∀ a ∈ S', a ∉ Sb := fun a ha hb => q.dis a ha (List.mem_append_right _ hb)
    have dj0 : ∀ a ∈ S', a ∉ S0 := fun a ha hb => q.dis a ha (List.mem_append_left _ hb)
    have hi : i < σ.length := (List.getElem?_eq_some_iff.mp hv).1
    -- the rest, in the heap as it is now, without what is owned now
    have m1 : Ex (mask H' (S0 ++ Sb ++ S')) (mask H' (S0 ++ (S' ++ Sb))) := mask_mono fun a o n e => ⟨fun z => n (by
      rcases List.mem_append.mp z with z | z
      · exact List.mem_append_left _ (List.mem_append_left _ z)
      · rcases List.mem_append.mp z with z | z
        · exact List.mem_append_right _ z
        · exact List.mem_append_left _ (List.mem_append_right _ z)), e⟩
    have m2 : Ex (mask H (S0 ++ S)) (mask H' (S0 ++ (S' ++ Sb))) := mask_mono fun a o n e => by
      have n0 : a ∉ S0 := fun z => n (List.mem_append_left _ z)
      have n1 : a ∉ S := fun z => n (List.mem_append_right _ z)
      refine ⟨fun z => ?_, g.keep a o e fun z => n1 (ma a z)⟩
      rcases List.mem_append.mp z with z | z
      · exact n0 z
      · rcases List.mem_append.mp z with z | z
        · rcases new a z with z | z
          · exact n1 (ma a z)
          · rw [e] at z
            cases z
        · exact n1 (mb a z)
    have h2' : Sls (own K (S0 ++ (S' ++ Sb)) H') σ (μ.set i none) Sb := h2.mono fun k d v T hT q => q.mono m2 fun a ha => by
      have nb : a ∉ Sa := fun z => dj a z (hT a ha)
      cases z : H a with
      | none => exact absurd z (r.tr a (List.mem_append_right _ (mb a (hT a ha))))
      | some o => rw [g.keep a o z nb]
    obtain ⟨U, h3, pU⟩ := Sls.put (f := own K (S0 ++ (S' ++ Sb)) H') (q2.mono m1 fun _ _ => rfl) hi h2'
    have eσ : σ.set i (some v) = σ := by
      apply List.ext_getElem?
      intro j
      by_cases hj : j = i
      · subst hj
        rw [List.getElem?_set_self hi, hv]
      · rw [List.getElem?_set_ne (Ne.symm hj)]
    rw [eσ] at h3
    have app : ∀ {τ : List (Option V)} {ν : M} {T : List Addr}, Sls (own K (S0 ++ (S' ++ Sb)) H') τ ν T → Sls (own K (S0 ++ (S' ++ Sb)) H') (τ ++ σ) (ν ++ μ.set i (some (d', k'))) (T ++ U) := by
      intro τ
      induction τ with
      | nil =>
        intro ν T hs
        cases ν with
        | nil =>
          have e : T = [] := hs
          subst e
          exact h3
        | cons y ν => exact hs.elim
      | cons x τ ih =>
        intro ν T hs
        cases ν with
        | nil => exact hs.elim
        | cons y ν =>
          cases y with
          | none =>
            have hs' : Sls (own K (S0 ++ (S' ++ Sb)) H') τ ν T := hs
            exact ih hs'
          | some dk =>
            obtain ⟨d1, k1⟩ := dk
            obtain ⟨u, U1, U2, e1, e2, q1, q2⟩ := hs
            exact ⟨u, U1, U2 ++ U, e1, by rw [e2, List.append_assoc], q1, ih q2⟩
    have h5 := app (q1.mono fun k d v T _ q => q.mono m1 fun _ _ => rfl)
    have mU : ∀ a, a ∈ U ↔ a ∈ T2 ∨ a ∈ Sb := fun a => by rw [pU.mem_iff, List.mem_append]
    have mem : ∀ a, a ∈ T1 ++ U ↔ a ∈ S' ∨ a ∈ Sb := fun a => by
      rw [List.mem_append, mU a, eT, List.mem_append]
      constructor
      · rintro (z | z | z)
        · exact .inl (.inl z)
        · exact .inl (.inr z)
        · exact .inr z
      · rintro ((z | z) | z)
        · exact .inl z
        · exact .inr (.inl z)
        · exact .inr (.inr z)
    have nd5 : (T1 ++ U).Nodup := by
      have e1 : (T1 ++ U).Perm (T1 ++ (T2 ++ Sb)) := List.Perm.append_left T1 pU
      rw [e1.nodup_iff, ← List.append_assoc, ← eT]
      exact List.nodup_append.mpr ⟨q.nd, (List.nodup_append.mp nd).2.1, fun a ha b hb e => djb a ha (e ▸ hb)⟩
    have m3 : Ex (mask H' (S0 ++ (S' ++ Sb))) (mask H' (S0 ++ (T1 ++ U))) := mask_mono fun a o n e => ⟨fun z => n (by
      rcases List.mem_append.mp z with z | z
      · exact List.mem_append_left _ z
      · exact List.mem_append_right _ (List.mem_append.mpr ((mem a).mp z))), e⟩
    refine ⟨T1 ++ U, ⟨fun a o e n => g.keep a o e fun z => n (ma a z), fun a ha => ?_⟩, ⟨fun a ha => q.t0 a (List.mem_append_left _ ha), fun a ha z => ?_, nd5, h5.mono fun k d v T _ q => q.mono m3 fun _ _ => rfl⟩, mem⟩
    · rcases (mem a).mp ha with z | z
      · rcases new a z with z | z
        · exact .inl (ma a z)
        · exact .inr z
      · exact .inl (mb a z)
    · rcases (mem a).mp ha with w | w
      · exact dj0 a w z
      · exact r.dis a (mb a w) z
theorem callIO_run {K : Frag} {mg : Str → Option Value} {n i : Nat} {sem : SemIO} (hn : ∀ dk ds, (sem dk ds).isSome = true → ds.length + 1 = n) {σ : Sg} {H : Hp} {Q : VK} (h : tO K mg W (mCallIO i sem ms) σ H Q) :
    tCallSD (spIO K mg n sem) [] (WE W) (tCons (tVar i) (tA K mg W ms)) σ H Q := by
  obtain ⟨S0, S, μ, rr, h⟩ := h
  obtain ⟨v, ev, h⟩ := has_run h rr
  refine ⟨v, ev, S0, S, μ, rr, Post.bnd (Z' := ZFs K S0 σ) h fun S1 H1 μ1 ds vs g1 z1 h1 => ?_⟩
  cases q : μ1[i]? with
  | none =>
    rw [q] at h1
    exact h1.elim
  | some o =>
    cases o with
    | none =>
      rw [q] at h1
      exact h1.elim
    | some dk0 =>
      rw [q] at h1
      obtain ⟨d0, k0⟩ := dk0
      obtain ⟨Sa, Sb, rl, ex, ma, mb, mm, back⟩ := z1.1.lend q ev
      have h1 : Post K mg W S0 S1 σ H1 (ZO K S0 σ) (ci i μ1 (sem (d0, k0) ds)) Q := h1
      match q2 : sem (d0, k0) ds, h1 with
      | none, h1 => exact h1.elim
      | some (.ok dk, dk0'), h1 =>
        refine ⟨v, vs, (d0, k0), ds, S0 ++ Sb, Sa, by simp, hn _ _ (by rw [q2]; rfl), rl, z1.2.ex ex, ?_⟩
        rw [q2]
        intro S' H' u g r'
        obtain ⟨S2, g2, r2, _⟩ := back (τ := [some u]) (ν := [some dk]) g r' rfl
        exact h1 S2 H' u g2 r2
      | some (.exn e, dk0'), h1 =>
        refine ⟨v, vs, (d0, k0), ds, S0 ++ Sb, Sa, by simp, hn _ _ (by rw [q2]; rfl), rl, z1.2.ex ex, ?_⟩
        rw [q2]
        intro S' H' cls dc g r' x
        obtain ⟨S2, g2, r2, mem⟩ := back (τ := []) (ν := []) g r' rfl
        refine h1 S2 H' cls dc g2 r2 ?_
        obtain ⟨C, c1, c2, c3⟩ := x
        refine ⟨C, c1, c2, ?_⟩
        rcases c3 with c3 | ⟨dd, fvs, e1, e2, e3, e4, e5⟩
        · exact .inl c3
        · have sub : ∀ a, a ∈ S0 ++ S2 → a ∈ S0 ++ Sb ++ S' := fun a z => by
            rcases List.mem_append.mp z with z | z
            · exact List.mem_append_left _ (List.mem_append_left _ z)
            · rcases (mem a).mp z with z | z
              · exact List.mem_append_right _ z
              · exact List.mem_append_left _ (List.mem_append_right _ z)
          exact .inr ⟨dd, fvs, e1, e2, fun z => e3 (sub _ z), e4, e5.ex (mask_mono fun a o n e => ⟨fun z => n (sub _ z), e⟩)⟩
variable {k n : Nat} {f : Addr} {fd : FuncData} {ps : List Str} {sem : SemIO} {x : Str}
theorem jo_callIO {i : Nat} {y : Str} {py : Pos} (F : FnOk X.prog X.w X.K X.mg X.base (L2.CX X.prog X.w) k f fd ps (spIO X.K X.mg n sem)) (hr : Room k X.A) (hg : Gl X x) (hm : X.mg x = some (.ref f)) (hk : PySem.W.keepIn X.K (.ref f) = true) (hb : Binds X.K fd ps [])
    (tk : Takes X W) (hn : ∀ dk ds, (sem dk ds).isSome = true → ds.length + 1 = n) (hN : X.N[i]? = some y) (hv : Vis X.env.scope y) (ha : JA X W es ms) (hs : starEach (.Name y py :: es) X.env = (false, eval (.Name y py) X.env) :: starEach es X.env := by rfl)
    (hd : (y == ("__debug__" : Str)) = false := by decide) (hcd : (y == ("__classdict__" : Str)) = false := by decide) (hdb : (x == ("__debug__" : Str)) = false := by decide) (hpl : (backTo pos (starEach es X.env)).any (·.1) = false := by rfl) :
    JO X W (.Call (.Name x p) (.Name y py :: es) [] pos) (mCallIO i sem ms) :=
  pe_imp (pe_callSD F hr hg hm hk hb .nil (E := WE W) (fun σ => passAt tk σ) (pa_cons (pe_var hN hv hd hcd) ha hs) hdb hs hpl) fun σ H Q h => callIO_run hn h

def CalIO (P : Program) (w : World) (K : Frag) (mg : Str → Option Value) (base : Heap) (k : Nat) (x : Str) (n : Nat) (sem : SemIO) : Prop :=
  ∃ f fd ps, FnOk P w K mg base (L2.CX P w) k f fd ps (spIO K mg n sem) ∧ mg x = some (.ref f) ∧ PySem.W.keepIn K (.ref f) = true ∧ Binds K fd ps [] ∧ ∀ dk ds, (sem dk ds).isSome = true → ds.length + 1 = n
theorem jo_calIO {j i : Nat} {y : Str} {py : Pos} (C : CalIO X.prog X.w X.K X.mg X.base k x n sem) (hr : Room j X.A) (hj : k ≤ j) (hg : Gl X x) (tk : Takes X W) (hN : X.N[i]? = some y) (hv : Vis X.env.scope y) (ha : JA X W es ms)
    (hs : starEach (.Name y py :: es) X.env = (false, eval (.Name y py) X.env) :: starEach es X.env := by rfl)
    (hd : (y == ("__debug__" : Str)) = false := by decide) (hcd : (y == ("__classdict__" : Str)) = false := by decide) (hdb : (x == ("__debug__" : Str)) = false := by decide) (hpl : (backTo pos (starEach es X.env)).any (·.1) = false := by rfl) :
    JO X W (.Call (.Name x p) (.Name y py :: es) [] pos) (mCallIO i sem ms) := by
  obtain ⟨f, fd, ps, F, hm, hk, hb, hn⟩ := C
  exact jo_callIO F (hr.mono hj) hg hm hk hb tk hn hN hv ha hs hd hcd hdb hpl
theorem calIO_of {P : Program} {w : World} {K : Frag} {mg : Str → Option Value} {base : Heap} {x qual : Str} {params : Arguments} {body : List Stmt} {scope : Scope} {f : Addr} {N ps : List Str} {k : Nat} {m : MS}
    (F : ∃ fd, FunD K x qual params body scope [] [] f fd) (S : FnScope N ps scope) (hN : 0 < N.length) (gx : mg x = some (.ref f)) (hb : ∀ (fd : FuncData), FunD K x qual params body scope [] [] f fd → Binds K fd ps [])
    (h : ∀ (cdv : Value) (A : Around) (outer : List Env) (s : Shared) (H : Hp) (E : XK), Room k (A.deeper (envOfC qual scope s.heap.objs.size f cdv)) → Takes (cxOf (L2.CX P w) P w K mg base N qual scope f cdv A outer s H E) (fun cls d _ H => E cls d H) →
      JB (cxOf (L2.CX P w) P w K mg base N qual scope f cdv A outer s H E) (fun cls d _ H => E cls d H) true body m) : CalIO P w K mg base (k + 1) x ps.length (semIO ps.length N.length m) := by
  obtain ⟨fd, F⟩ := F
  exact ⟨f, fd, ps, fnIO F S hN fun cdv A outer s H E hr => h cdv A outer s H E hr (takes_of (E := E) rfl rfl rfl rfl), gx, F.kp, hb fd F, fun dk ds q => semIO_len q⟩

/-! ### items -/
/-- x[i] of lists, tuples, texts -/
def ixD : D → D → Option D
  | .lst ds, .int i => atI ds i
  | .tup ds, .int i => atI ds i
  | .str x, .int i => if x.length ≤ 16777216 then (atI x i).map fun c => .str [c] else none
  | _, _ => none
theorem atI_some {α : Type} {xs : List α} {i : Int} {x : α} (h : atI xs i = some x) : ∃ j, ixN xs.length i = some j ∧ xs[j]? = some x := by
  unfold atI at h
  cases q : ixN xs.length i with
  | none =>
    rw [q] at h
    cases h
  | some j =>
    rw [q] at h
    exact ⟨j, rfl, h⟩
theorem atI_reps {K : Frag} {F : Hp} {ds : List D} {vs : List V} {i : Int} {d : D} (r : Reps K F ds vs) (h : atI ds i = some d) : ∃ v, atI vs i = some v ∧ Rep K F d v := by
  obtain ⟨j, h1, h2⟩ := atI_some h
  obtain ⟨v, q1, q2⟩ := r.get h2
  refine ⟨v, ?_, q2⟩
  unfold atI
  rw [r.length, h1]
  exact q1
theorem o_ix {K : Frag} : Op2 K (rIx K) ixD := by
  intro S H d e c x y Q hS hx hy hg k
  cases e with
  | int i =>
    have ey : y = .int i := hy
    subst ey
    cases d with
    | lst ds =>
      obtain ⟨a, vs, e1, q1, q2⟩ := hx
      obtain ⟨v, p1, p2⟩ := atI_reps q2 hg
      exact .inl ⟨a, vs, i, v, e1, rfl, ex_l mask_ex q1, p1, k v H (Ex.refl _) p2⟩
    | tup ds =>
      obtain ⟨a, vs, e1, q1, q2⟩ := hx
      obtain ⟨v, p1, p2⟩ := atI_reps q2 hg
      exact .inr (.inl ⟨a, vs, i, v, e1, rfl, ex_t mask_ex q1, p1, k v H (Ex.refl _) p2⟩)
    | str z =>
      have ex : x = .str ⟨z.toArray⟩ := hx
      subst ex
      have hg' : (if z.length ≤ 16777216 then (atI z i).map (fun c => D.str [c]) else none) = some c := hg
      split at hg'
      · rename_i hl
        cases q : atI z i with
        | none =>
          rw [q] at hg'
          cases hg'
        | some n =>
          rw [q] at hg'
          cases hg'
          refine .inr (.inr ⟨⟨z.toArray⟩, i, n, rfl, rfl, ?_, by simpa using q, k _ H (Ex.refl _) rfl⟩)
          show z.toArray.size ≤ sizeLine
          rw [sizeLine_eq]
          simpa using hl
      · cases hg'
    | _ => cases hg
  | _ => cases d <;> cases hg
/-- a slot read in passing: what is owned stays owned (its items are not) -/
def br : Option (Option (D × Kd)) → Option D
  | some (some (d, .z)) => some d
  | some (some (.lst ds, .s .z)) => some (.lst ds)
  | _ => none
def brw (μ : M) (i : Nat) : Option D := br μ[i]?
def bw {α : Type} (μ : M) (f : D → Option α) : Option D → Option (Res α × M)
  | some d => op' μ (f d)
  | none => none
def mIxB (i : Nat) (mi : EV D) : EV D := has i (bnd mi fun j => fun μ => bw μ (fun d => ixD d j) (brw μ i))
theorem owns_z {K : Frag} {F H : Hp} : ∀ {ds : List D} {vs : List V} {S : List Addr}, OwnsF (Own K F H .z) ds vs S → S = [] ∧ Reps K F ds vs
  | [], _, _, h => ⟨h.2, h.1⟩
  | d :: ds, _, _, h => by
    obtain ⟨v, r, S1, S2, e1, e2, h1, h2⟩ := h
    obtain ⟨e3, h4⟩ := owns_z h2
    obtain ⟨e5, h6⟩ := h1
    subst e3
    subst e5
    exact ⟨e2, v, r, e1, h6, h4⟩
theorem brw_ok {K : Frag} {S0 S : List Addr} {H : Hp} {σ : List (Option V)} {μ : M} {i : Nat} {d : D} {v : V} (r : R K S0 S H σ μ) (h : brw μ i = some d) (ev : σ[i]? = some (some v)) :
    Rep K (mask H (S0 ++ S)) d v ∨ ∃ ds a vs, d = .lst ds ∧ v = .ref a ∧ H a = some (.lst vs) ∧ Reps K (mask H (S0 ++ S)) ds vs := by
  unfold brw br at h
  split at h
  · rename_i d' q
    cases h
    obtain ⟨v', e1, p1⟩ := r.read0 q
    rw [ev] at e1
    cases e1
    exact .inl p1
  · rename_i ds q
    cases h
    obtain ⟨v', T1, T2, e1, q1, q2, _⟩ := r.sl.take q
    rw [ev] at e1
    cases e1
    obtain ⟨a, vs, T3, e2, e3, e4, q3⟩ := q1
    exact .inr ⟨ds, a, vs, rfl, e2, e3, (owns_z q3).2⟩
  · cases h
theorem j_ixB {i : Nat} {x : Str} {px : Pos} (hN : X.N[i]? = some x) (hv : Vis X.env.scope x) (hb : JF X W e mi) (hs : PlainIx e) (hd : (x == ("__debug__" : Str)) = false := by decide) (hcd : (x == ("__classdict__" : Str)) = false := by decide) : JF X W (.Subscript (.Name x px) e pos) (mIxB i mi) := by
  refine pe_imp (pe_ix ix_seq (pe_var hN hv hd hcd) hb hs) fun σ H Q h => ?_
  obtain ⟨S0, S, μ, rr, h⟩ := h
  obtain ⟨v, ev, h⟩ := has_run h rr
  refine ⟨v, ev, S0, S, μ, rr, Post.bnd (Z' := ZF X.K S0 σ) h fun S1 H1 μ1 j u g1 z1 h1 => ?_⟩
  cases q : brw μ1 i with
  | none =>
    rw [q] at h1
    exact h1.elim
  | some d =>
    rw [q] at h1
    have h3 : Post X.K X.mg W S0 S1 σ H1 (ZF X.K S0 σ) (opt (ixD d j) μ1) Q := h1
    cases q2 : ixD d j with
    | none =>
      rw [q2] at h3
      exact h3.elim
    | some c =>
      rw [q2] at h3
      rcases brw_ok z1.1 q ev with p | ⟨ds, a, vs, e1, e2, e3, e4⟩
      · exact o_ix (S0 ++ S1) H1 d j c v u Q z1.1.tr p z1.2 q2 fun w H3 ex p => h3 S1 H3 w (Gr.ex ex) ⟨z1.1.ex ex, p⟩
      · subst e1
        cases j with
        | int n =>
          have eu : u = .int n := z1.2
          obtain ⟨w, p1, p2⟩ := atI_reps e4 q2
          exact .inl ⟨a, vs, n, w, e2, eu, SqL.of e3, p1, h3 S1 H1 w Gr.refl ⟨z1.1, p2⟩⟩
        | _ => cases q2
/-- x[e] = v, x an owned list of frozen items -/
def ow : Option (Option (D × Kd)) → Option (List D)
  | some (some (.lst ds, .s .z)) => some ds
  | _ => none
def ownL (μ : M) (i : Nat) : Option (List D) := ow μ[i]?
theorem ownL_eq {μ : M} {i : Nat} {ds : List D} (h : ownL μ i = some ds) : μ[i]? = some (some (.lst ds, .s .z)) := by
  unfold ownL ow at h
  split at h
  · rename_i q
    cases h
    exact q
  · cases h
def asI : D → Option Int
  | .int i => some i
  | _ => none
theorem asI_eq {d : D} {i : Int} (h : asI d = some i) : d = .int i := by
  cases d <;> cases h
  rfl
def stL (μ : M) (i : Nat) (j d : D) : Option M := (ownL μ i).bind fun ds => (asI j).bind fun n => (ixN ds.length n).map fun t => μ.set i (some (.lst (ds.set t d), .s .z))
theorem stL_eq {μ μ' : M} {i : Nat} {j d : D} (h : stL μ i j d = some μ') : ∃ ds n t, μ[i]? = some (some (.lst ds, .s .z)) ∧ j = .int n ∧ ixN ds.length n = some t ∧ μ' = μ.set i (some (.lst (ds.set t d), .s .z)) := by
  unfold stL at h
  cases q : ownL μ i with
  | none =>
    rw [q] at h
    cases h
  | some ds =>
    rw [q] at h
    cases q2 : asI j with
    | none =>
      rw [q2] at h
      cases h
    | some n =>
      rw [q2] at h
      have h : (ixN ds.length n).map (fun t => μ.set i (some (.lst (ds.set t d), .s .z))) = some μ' := h
      cases q3 : ixN ds.length n with
      | none =>
        rw [q3] at h
        cases h
      | some t =>
        rw [q3] at h
        cases h
        exact ⟨ds, n, t, ownL_eq q, asI_eq q2, q3, rfl⟩
def mStIx (i : Nat) (m mi : EV D) : MS := has i (bnd m fun d => bnd mi fun j => fun μ => ag (stL μ i j d))
theorem owns_of {K : Frag} {F H : Hp} : ∀ {ds : List D} {vs : List V}, Reps K F ds vs → OwnsF (Own K F H .z) ds vs []
  | [], _, h => ⟨h, rfl⟩
  | d :: ds, _, h => by
    obtain ⟨v, r, e, h1, h2⟩ := h
    exact ⟨v, r, [], [], e, rfl, ⟨rfl, h1⟩, owns_of h2⟩
theorem js_stIx {i : Nat} {x : Str} {px psub : Pos} {ei : Expr} (hN : X.N[i]? = some x) (hv : Vis X.env.scope x) (he : JF X W e m) (hi : JF X W ei mi)
    (hs : swapsWithSole [.Subscript (.Name x px) ei psub] e pos.line X.env = pure false := by rfl) (hw : swappedStores [.Subscript (.Name x px) ei psub] e X.env = pure none := by rfl) (h1 : (assignEach [.Subscript (.Name x px) ei psub] X.env).map (·.2) = [assign (.Subscript (.Name x px) ei psub) X.env] := by rfl)
    (ha : ∀ v, assign (.Subscript (.Name x px) ei psub) X.env v = (do
      let ov ← holding [v] (eval (.Name x px) X.env)
      let iv ← holding [v, ov] (eval ei X.env)
      standAt psub
      holding [v, ov, iv] (setItem ov iv v)
      release [v, ov, iv] []) := by intro _; rfl) (hd : (x == ("__debug__" : Str)) = false := by decide) (hcd : (x == ("__classdict__" : Str)) = false := by decide) :
    JS X W pin (.Assign [.Subscript (.Name x px) ei psub] e pos) (mStIx i m mi) := ps_imp (ps_asg he (pg_sub (pe_var hN hv hd hcd) hi set_list ha) hs hw h1) fun En σ H h => by
  obtain ⟨S0, S, μ, rr, h⟩ := h
  obtain ⟨v, ev, h⟩ := has_runS h rr
  refine ⟨S0, S, μ, rr, PostS.bnd (Z' := ZF X.K S0 σ) h fun S1 H1 μ1 d u g1 z1 h1 => ?_⟩
  refine ⟨v, ev, S0, S1, μ1, z1.1, PostS.bnd (Z' := ZF X.K S0 σ) h1 fun S2 H2 μ2 j w g2 z2 h2 => ?_⟩
  cases q0 : stL μ2 i j d with
  | none =>
    rw [q0] at h2
    exact h2.elim
  | some μ3 =>
    rw [q0] at h2
    obtain ⟨ds, n, t, q, ej, q5, e8⟩ := stL_eq q0
    subst ej
    subst e8
    have ew : w = .int n := z2.2
    obtain ⟨Sa, Sb, rl, ex, ma, mb, mm, back⟩ := z2.1.lend q ev
    obtain ⟨v', T1, T2, e1, e2, q1, q2⟩ := rl.sl
    cases e1
    obtain ⟨a, vs, T3, e3, e4, e5, q3⟩ := q1
    obtain ⟨e6, q4⟩ := owns_z q3
    subst e6
    have e7 : T2 = [] := q2
    subst e7
    have eSa : Sa = [a] := by rw [e2, e5]; rfl
    refine ⟨a, vs, n, t, e3, ew, e4, by rw [q4.length]; exact q5, ?_⟩
    have g3 : Gr Sa H2 Sa (upd H2 a (.lst (vs.set t u))) := ⟨fun b o e nb => by
      rw [upd_ne (fun z => nb (by rw [eSa, z]; exact List.mem_cons_self))]
      exact e, fun b hb => .inl hb⟩
    have m4 : Ex (mask H2 (S0 ++ Sb ++ Sa)) (mask (upd H2 a (.lst (vs.set t u))) (S0 ++ Sb ++ Sa)) := Gr.mask g3
    have p : Rep X.K (mask H2 (S0 ++ Sb ++ Sa)) d u := (z1.2.ex g2.mask).ex ex
    have rl' : R X.K (S0 ++ Sb) Sa (upd H2 a (.lst (vs.set t u))) [some v] [some (.lst (ds.set t d), .s .z)] := by
      refine ⟨fun b hb => ?_, rl.dis, rl.nd, ⟨v, Sa, [], rfl, by simp, ⟨a, vs.set t u, [], e3, upd_same, eSa, owns_of ((Reps.set p t q4).ex m4)⟩, rfl⟩⟩
      by_cases hba : b = a
      · rw [hba, upd_same]
        exact fun z => nomatch z
      · rw [upd_ne hba]
        exact rl.t0 b hb
    obtain ⟨S3, g5, r5, _⟩ := back (τ := []) (ν := []) g3 rl' rfl
    exact h2 S3 _ σ g5 Keep.refl r5
/-- an owned list of frozen items -/
def mLstO (a : EV (List D)) : EV (D × Kd) := bnd a fun ds => opt (if ds.length ≤ 16777216 then some (.lst ds, .s .z) else none)
theorem R.new {K : Frag} {S0 S : List Addr} {H : Hp} {σ : List (Option V)} {μ : M} {q : Addr} {ds : List D} {vs : List V} (r : R K S0 S H σ μ) (hq : H q = none) (h : Reps K (mask H (S0 ++ S)) ds vs) :
    R K S0 (q :: S) (upd H q (.lst vs)) (some (.ref q) :: σ) (some (.lst ds, .s .z) :: μ) ∧ Gr S H (q :: S) (upd H q (.lst vs)) := by
  have nq : q ∉ S0 ++ S := fun z => r.tr q z hq
  have m2 : Ex (mask H (S0 ++ S)) (mask (upd H q (.lst vs)) (S0 ++ (q :: S))) := mask_mono fun a o n e => by
    refine ⟨fun z => ?_, Ex.new hq a o e⟩
    rcases List.mem_append.mp z with z | z
    · exact n (List.mem_append_left _ z)
    · rcases List.mem_cons.mp z with z | z
      · rw [z, hq] at e
        cases e
      · exact n (List.mem_append_right _ z)
  refine ⟨⟨(r.ex (Ex.new hq)).t0, fun a ha => ?_, ?_, ⟨.ref q, [q], S, rfl, rfl, ⟨q, vs, [], rfl, upd_same, rfl, owns_of (h.ex m2)⟩, r.sl.mono fun k d v T hT p => p.mono m2 fun a ha => ?_⟩⟩, ⟨fun a o e n => Ex.new hq a o e, fun a ha => ?_⟩⟩
  · rcases List.mem_cons.mp ha with ha | ha
    · rw [ha]
      exact fun z => nq (List.mem_append_left _ z)
    · exact r.dis a ha
  · exact List.nodup_cons.mpr ⟨fun z => nq (List.mem_append_right _ z), r.nd⟩
  · rcases List.mem_cons.mp ha with ha | ha
    · rw [ha]
      exact .inr hq
    · exact .inl ha
  · exact upd_ne fun z => nq (List.mem_append_right _ (by rw [← z]; exact hT a ha))
theorem jo_lst (h : JA X W es ms) : JO X W (.List es pos) (mLstO ms) := pe_imp (pe_lst h) fun σ H Q h => by
  obtain ⟨S0, S, μ, rr, h⟩ := h
  refine ⟨S0, S, μ, rr, Post.bnd (Z' := ZFs X.K S0 σ) h fun S1 H1 μ1 ds vs g1 z1 h1 => ?_⟩
  by_cases hl : ds.length ≤ 16777216
  · rw [if_pos hl] at h1
    refine ⟨by rw [z1.2.length, sizeLine_eq]; exact hl, fun p hp => ?_⟩
    obtain ⟨r2, g2⟩ := z1.1.new hp z1.2
    exact h1 _ _ _ g2 r2
  · rw [if_neg hl] at h1
    exact h1.elim
/-- a frozen value where an owned one may stand -/
def toO (m : EV D) : EV (D × Kd) := bnd m fun d => giv (d, .z)
theorem jo_of (h : JF X W e m) : JO X W e (toO m) := pe_imp h fun σ H Q h => by
  obtain ⟨S0, S, μ, rr, h⟩ := h
  exact ⟨S0, S, μ, rr, Post.bnd (Z' := ZF X.K S0 σ) h fun S1 H1 μ1 d v g1 z1 h1 => h1 S1 H1 v Gr.refl (z1.1.push z1.2)⟩
end
end Mn
end
section
/-! Mn: the operations on trees. -/
namespace Mn
open PySem PySem.Spec PyProof.Rows L2

/-- two ints -/
def dII (g : Int → Int → D) : D → D → Option D
  | .int i, .int j => some (g i j)
  | _, _ => none
def dIC (c : Int → Int → Bool) (g : Int → Int → D) : D → D → Option D
  | .int i, .int j => bif c i j then some (g i j) else none
  | _, _ => none
theorem dII_some {g : Int → Int → D} {d e c : D} (h : dII g d e = some c) : ∃ i j, d = .int i ∧ e = .int j ∧ c = g i j := by
  unfold dII at h
  split at h
  · cases h
    exact ⟨_, _, rfl, rfl, rfl⟩
  · cases h
theorem dIC_some {q : Int → Int → Bool} {g : Int → Int → D} {d e c : D} (h : dIC q g d e = some c) : ∃ i j, d = .int i ∧ e = .int j ∧ q i j = true ∧ c = g i j := by
  unfold dIC at h
  split at h
  · rename_i i j
    cases z : q i j with
    | true =>
      rw [z] at h
      cases h
      exact ⟨i, j, rfl, rfl, z, rfl⟩
    | false =>
      rw [z] at h
      cases h
  · cases h
section
variable {K : Frag}
theorem o_II {g : Int → Int → V} {gd : Int → Int → D} (h : ∀ i j F, Rep K F (gd i j) (g i j)) : Op2 K (rI0 g) (dII gd) := by
  intro S H d e c x y Q hS hx hy hg k
  obtain ⟨i, j, e1, e2, e3⟩ := dII_some hg
  subst e1
  subst e2
  subst e3
  exact ⟨i, j, hx, hy, k _ H (Ex.refl _) (h i j _)⟩
theorem o_IC {C : Int → Int → Prop} {q : Int → Int → Bool} {g : Int → Int → V} {gd : Int → Int → D} (hc : ∀ i j, q i j = true → C i j) (h : ∀ i j F, Rep K F (gd i j) (g i j)) : Op2 K (rI C g) (dIC q gd) := by
  intro S H d e c x y Q hS hx hy hg k
  obtain ⟨i, j, e1, e2, e4, e3⟩ := dIC_some hg
  subst e1
  subst e2
  subst e3
  exact ⟨i, j, hx, hy, hc i j e4, k _ H (Ex.refl _) (h i j _)⟩
def gAdd := dII fun i j => .int (i + j)
def gSub := dII fun i j => .int (i - j)
def gXor := dII fun i j => .int (Builtin.bitXor i j)
def gAnd := dII fun i j => .int (Builtin.bitAnd i j)
def gLt := dII fun i j => .bl (decide (i < j))
def gLe := dII fun i j => .bl (decide (i ≤ j))
def gGt := dII fun i j => .bl (decide (j < i))
def gGe := dII fun i j => .bl (decide (j ≤ i))
def sm (i : Int) : Bool := Nat.ble i.natAbs 18446744073709551615
def lt30 (i : Int) : Bool := Nat.ble i.natAbs 1073741823
theorem sm_of {i : Int} (h1 : -18446744073709551616 < i) (h2 : i < 18446744073709551616) : sm i = true := Nat.ble_eq_true_of_le (by omega)
theorem lt30_of {i : Int} (h1 : 0 ≤ i) (h2 : i < 1073741824) : lt30 i = true := Nat.ble_eq_true_of_le (by omega)
theorem lt30_ok {i : Int} (h : lt30 i = true) : i < 1073741824 := by
  have := Nat.le_of_ble_eq_true h
  omega
def gMul := dIC (fun i j => sm i || sm j) fun i j => .int (i * j)
def gDiv := dIC (fun _ j => decide (0 < j) && lt30 j) fun i j => .int (i / j)
def gMod := dIC (fun _ j => decide (0 < j)) fun i j => .int (i % j)
def gPow := dIC (fun i j => decide (0 ≤ j) && decide (j ≤ 1000000) && decide (i.natAbs < 18446744073709551616)) fun i j => .int (i ^ j.toNat)
def gShl := dIC (fun i j => decide (0 ≤ j) && decide (j ≤ 1000000) && decide (i.natAbs < 18446744073709551616)) fun i j => .int (i * 2 ^ j.toNat)
def gShr := dIC (fun _ j => decide (0 ≤ j)) fun i j => .int (i / 2 ^ j.toNat)
theorem sm_ok {i : Int} (h : sm i = true) : -(2 ^ 64) < i ∧ i < 2 ^ 64 := by
  have := Nat.le_of_ble_eq_true h
  omega
theorem o_add : Op2 K (rI0 fun i j => .int (i + j)) gAdd := o_II fun _ _ _ => rfl
theorem o_sub : Op2 K (rI0 fun i j => .int (i - j)) gSub := o_II fun _ _ _ => rfl
theorem o_xor : Op2 K (rI0 fun i j => .int (Builtin.bitXor i j)) gXor := o_II fun _ _ _ => rfl
theorem o_and : Op2 K (rI0 fun i j => .int (Builtin.bitAnd i j)) gAnd := o_II fun _ _ _ => rfl
theorem o_lt : Op2 K (rI0 fun i j => .bl (decide (i < j))) gLt := o_II fun _ _ _ => rfl
theorem o_le : Op2 K (rI0 fun i j => .bl (decide (i ≤ j))) gLe := o_II fun _ _ _ => rfl
theorem o_gt : Op2 K (rI0 fun i j => .bl (decide (j < i))) gGt := o_II fun _ _ _ => rfl
theorem o_ge : Op2 K (rI0 fun i j => .bl (decide (j ≤ i))) gGe := o_II fun _ _ _ => rfl
theorem o_mul : Op2 K (rI CMul fun i j => .int (i * j)) gMul := o_IC (fun i j h => (Bool.or_eq_true_iff.mp h).elim (fun z => .inl (sm_ok z)) fun z => .inr (sm_ok z)) fun _ _ _ => rfl
theorem o_div : Op2 K (rI CDiv fun i j => .int (i / j)) gDiv := o_IC (fun i j h => by
  have h2 := Bool.and_eq_true_iff.mp h
  exact ⟨of_decide_eq_true h2.1, lt30_ok h2.2⟩) fun _ _ _ => rfl
theorem o_mod : Op2 K (rI (fun _ j => 0 < j) fun i j => .int (i % j)) gMod := o_IC (fun i j h => of_decide_eq_true h) fun _ _ _ => rfl
theorem pow_ok {i j : Int} (h : (decide (0 ≤ j) && decide (j ≤ 1000000) && decide (i.natAbs < 18446744073709551616)) = true) : CPow i j := by
  have h2 := Bool.and_eq_true_iff.mp h
  have h3 := Bool.and_eq_true_iff.mp h2.1
  have h4 := of_decide_eq_true h2.2
  exact ⟨of_decide_eq_true h3.1, of_decide_eq_true h3.2, by omega⟩
theorem o_pow : Op2 K (rI CPow fun i j => .int (i ^ j.toNat)) gPow := o_IC (fun i j h => pow_ok h) fun _ _ _ => rfl
theorem o_shl : Op2 K (rI CPow fun i j => .int (i * 2 ^ j.toNat)) gShl := o_IC (fun i j h => pow_ok h) fun _ _ _ => rfl
theorem o_shr : Op2 K (rI (fun _ j => 0 ≤ j) fun i j => .int (i / 2 ^ j.toNat)) gShr := o_IC (fun i j h => of_decide_eq_true h) fun _ _ _ => rfl
/-- == of plain values -/
def eqS : D → D → Option Bool
  | .int i, .int j => some (decide (i = j))
  | .bl a, .bl b => some (decide (a = b))
  | .str x, .str y => some (decide (x = y))
  | .non, .non => some true
  | .non, .int _ => some false
  | .int _, .non => some false
  | _, _ => none
def gEq (d e : D) : Option D := (eqS d e).map fun b => .bl b
def gNe (d e : D) : Option D := (eqS d e).map fun b => .bl !b
theorem eqS_ok {F : Hp} {d e : D} {x y : V} {b : Bool} (hx : Rep K F d x) (hy : Rep K F e y) (h : eqS d e = some b) : scal x y = true ∧ b = decide (x = y) := by
  unfold eqS at h
  split at h <;> cases h <;> (rw [show x = _ from hx, show y = _ from hy]) <;> refine ⟨rfl, ?_⟩ <;> simp
theorem o_eq : Op2 K rEq gEq := by
  intro S H d e c x y Q hS hx hy hg k
  unfold gEq at hg
  cases q : eqS d e with
  | none =>
    rw [q] at hg
    cases hg
  | some b =>
    rw [q] at hg
    cases hg
    obtain ⟨h1, h2⟩ := eqS_ok hx hy q
    refine ⟨h1, k _ H (Ex.refl _) ?_⟩
    rw [h2]
    rfl
theorem o_ne : Op2 K rNe gNe := by
  intro S H d e c x y Q hS hx hy hg k
  unfold gNe at hg
  cases q : eqS d e with
  | none =>
    rw [q] at hg
    cases hg
  | some b =>
    rw [q] at hg
    cases hg
    obtain ⟨h1, h2⟩ := eqS_ok hx hy q
    refine ⟨h1, k _ H (Ex.refl _) ?_⟩
    rw [h2]
    rfl
def gNeg : D → Option D
  | .int i => some (.int (-i))
  | _ => none
theorem o_neg : Op1 K (rU fun i => .int (-i)) gNeg := by
  intro S H d c x Q hS hx hg k
  cases d with
  | int i =>
    cases hg
    exact ⟨i, hx, k _ H (Ex.refl _) rfl⟩
  | _ => cases hg
/-! ### len, int, isinstance -/
def lenD : D → Option D
  | .lst ds => some (.int ds.length)
  | .tup ds => some (.int ds.length)
  | .str x => if x.length ≤ 16777216 then some (.int x.length) else none
  | _ => none
def n1 (g : D → Option D) : List D → Option D
  | [d] => g d
  | _ => none
theorem n1_some {g : D → Option D} {ds : List D} {c : D} (h : n1 g ds = some c) : ∃ d, ds = [d] ∧ g d = some c := by
  unfold n1 at h
  split at h
  · exact ⟨_, rfl, h⟩
  · cases h
theorem lenD_ok {S : List Addr} {H : Hp} {d c : D} {v : V} (hv : Rep K (mask H S) d v) (h : lenD d = some c) : ∃ n : Nat, c = .int n ∧ LenV K v H n := by
  cases d with
  | lst ds =>
    obtain ⟨a, vs, e1, q1, q2⟩ := hv
    cases h
    subst e1
    exact ⟨_, rfl, .inl ⟨vs, ex_l mask_ex q1, q2.length.symm⟩⟩
  | tup ds =>
    obtain ⟨a, vs, e1, q1, q2⟩ := hv
    cases h
    subst e1
    exact ⟨_, rfl, .inr ⟨vs, ex_t mask_ex q1, q2.length.symm⟩⟩
  | str x =>
    have e : v = .str ⟨x.toArray⟩ := hv
    subst e
    have h' : (if x.length ≤ 16777216 then some (D.int x.length) else none) = some c := h
    split at h'
    · rename_i hl
      cases h'
      refine ⟨_, rfl, ?_, ?_⟩
      · show x.toArray.size ≤ sizeLine
        rw [sizeLine_eq]
        simpa using hl
      · show x.length = x.toArray.size
        simp
    · cases h'
  | _ => cases h
theorem o_len : OpN K (fun xs H Q => ∃ x n, xs = [x] ∧ LenV K x H n ∧ Q (.int n) H) (n1 lenD) := by
  intro S H ds c xs Q hS hx hg k
  obtain ⟨d, e1, e2⟩ := n1_some hg
  subst e1
  obtain ⟨v, e3, q⟩ := reps1 hx
  obtain ⟨n, e4, l⟩ := lenD_ok q e2
  subst e4
  exact ⟨v, n, e3, l, k _ H (Ex.refl _) rfl⟩
def intD : D → Option D
  | .int i => some (.int i)
  | .bl b => some (.int (if b then 1 else 0))
  | _ => none
theorem o_int : OpN K (fun xs H Q => (∃ i, xs = [.int i] ∧ Q (.int i) H) ∨ ∃ k, xs = [.bl k] ∧ Q (.int (if k then 1 else 0)) H) (n1 intD) := by
  intro S H ds c xs Q hS hx hg k
  obtain ⟨d, e1, e2⟩ := n1_some hg
  subst e1
  obtain ⟨v, e3, q⟩ := reps1 hx
  cases d with
  | int i =>
    cases e2
    exact .inl ⟨i, by rw [e3, show v = .int i from q], k _ H (Ex.refl _) rfl⟩
  | bl b =>
    cases e2
    exact .inr ⟨b, by rw [e3, show v = .bl b from q], k _ H (Ex.refl _) rfl⟩
  | _ => cases e2
def tyN : D → String
  | .non => "NoneType"
  | .bl _ => "bool"
  | .int _ => "int"
  | .str _ => "str"
  | .tup _ => "tuple"
  | .lst _ => "list"
  | .dct _ _ => "dict"
inductive Ty where
  | int | bool | str | tuple | list | dict
def Ty.nm : Ty → String
  | .int => "int"
  | .bool => "bool"
  | .str => "str"
  | .tuple => "tuple"
  | .list => "list"
  | .dict => "dict"
def isTy : Ty → D → Bool
  | .int, .int _ => true
  | .int, .bl _ => true
  | .bool, .bl _ => true
  | .str, .str _ => true
  | .tuple, .tup _ => true
  | .list, .lst _ => true
  | .dict, .dct _ _ => true
  | _, _ => false
theorem tyx {S : List Addr} {H : Hp} {d : D} {v : V} (hv : Rep K (mask H S) d v) : TyX K H v (.type (tyN d)) := by
  cases d with
  | non => rw [show v = .non from hv]; exact .base .non
  | bl b => rw [show v = .bl b from hv]; exact .base (.bl b)
  | int i => rw [show v = .int i from hv]; exact .base (.int i)
  | str x => rw [show v = .str ⟨x.toArray⟩ from hv]; exact .base (.str _)
  | tup ds =>
    obtain ⟨a, vs, e1, q1, q2⟩ := hv
    subst e1
    rcases ex_t mask_ex q1 with (q | ⟨o, q⟩) | ⟨o, its, n, q, c, _⟩
    · exact .base (.tup q)
    · exact .fTuple q
    · exact .kTuple q c
  | lst ds =>
    obtain ⟨a, vs, e1, q1, q2⟩ := hv
    subst e1
    rcases ex_l mask_ex q1 with (q | ⟨o, q⟩) | ⟨o, its, n, q, c, _⟩
    · exact .base (.lst q)
    · exact .base (.frz q)
    · exact .kList q c
  | dct ks ds =>
    obtain ⟨a, kvs, e1, q1, e2, q2⟩ := hv
    subst e1
    rcases ex_rd mask_ex q1 with q | ⟨o, q⟩
    · exact .base (.dK q)
    · exact .fDict q
theorem is_ty : ∀ (T : Ty) (d : D), kitB (tyN d) T.nm = some (isTy T d)
  | .int, .non => (by decide +kernel : kitB "NoneType" "int" = some false)
  | .int, .bl _ => (by decide +kernel : kitB "bool" "int" = some true)
  | .int, .int _ => (by decide +kernel : kitB "int" "int" = some true)
  | .int, .str _ => (by decide +kernel : kitB "str" "int" = some false)
  | .int, .tup _ => (by decide +kernel : kitB "tuple" "int" = some false)
  | .int, .lst _ => (by decide +kernel : kitB "list" "int" = some false)
  | .int, .dct _ _ => (by decide +kernel : kitB "dict" "int" = some false)
  | .bool, .non => (by decide +kernel : kitB "NoneType" "bool" = some false)
  | .bool, .bl _ => (by decide +kernel : kitB "bool" "bool" = some true)
  | .bool, .int _ => (by decide +kernel : kitB "int" "bool" = some false)
  | .bool, .str _ => (by decide +kernel : kitB "str" "bool" = some false)
  | .bool, .tup _ => (by decide +kernel : kitB "tuple" "bool" = some false)
  | .bool, .lst _ => (by decide +kernel : kitB "list" "bool" = some false)
  | .bool, .dct _ _ => (by decide +kernel : kitB "dict" "bool" = some false)
  | .str, .non => (by decide +kernel : kitB "NoneType" "str" = some false)
  | .str, .bl _ => (by decide +kernel : kitB "bool" "str" = some false)
  | .str, .int _ => (by decide +kernel : kitB "int" "str" = some false)
  | .str, .str _ => (by decide +kernel : kitB "str" "str" = some true)
  | .str, .tup _ => (by decide +kernel : kitB "tuple" "str" = some false)
  | .str, .lst _ => (by decide +kernel : kitB "list" "str" = some false)
  | .str, .dct _ _ => (by decide +kernel : kitB "dict" "str" = some false)
  | .tuple, .non => (by decide +kernel : kitB "NoneType" "tuple" = some false)
  | .tuple, .bl _ => (by decide +kernel : kitB "bool" "tuple" = some false)
  | .tuple, .int _ => (by decide +kernel : kitB "int" "tuple" = some false)
  | .tuple, .str _ => (by decide +kernel : kitB "str" "tuple" = some false)
  | .tuple, .tup _ => (by decide +kernel : kitB "tuple" "tuple" = some true)
  | .tuple, .lst _ => (by decide +kernel : kitB "list" "tuple" = some false)
  | .tuple, .dct _ _ => (by decide +kernel : kitB "dict" "tuple" = some false)
  | .list, .non => (by decide +kernel : kitB "NoneType" "list" = some false)
  | .list, .bl _ => (by decide +kernel : kitB "bool" "list" = some false)
  | .list, .int _ => (by decide +kernel : kitB "int" "list" = some false)
  | .list, .str _ => (by decide +kernel : kitB "str" "list" = some false)
  | .list, .tup _ => (by decide +kernel : kitB "tuple" "list" = some false)
  | .list, .lst _ => (by decide +kernel : kitB "list" "list" = some true)
  | .list, .dct _ _ => (by decide +kernel : kitB "dict" "list" = some false)
  | .dict, .non => (by decide +kernel : kitB "NoneType" "dict" = some false)
  | .dict, .bl _ => (by decide +kernel : kitB "bool" "dict" = some false)
  | .dict, .int _ => (by decide +kernel : kitB "int" "dict" = some false)
  | .dict, .str _ => (by decide +kernel : kitB "str" "dict" = some false)
  | .dict, .tup _ => (by decide +kernel : kitB "tuple" "dict" = some false)
  | .dict, .lst _ => (by decide +kernel : kitB "list" "dict" = some false)
  | .dict, .dct _ _ => (by decide +kernel : kitB "dict" "dict" = some true)
end
section
variable {X : Cx} {W : WX} {pin : Bool} {tg e : Expr} {es : List Expr} {m mi : EV D} {ms : EV (List D)} {pos p : Pos}
/-- isinstance(e, T), T a built-in type -/
theorem j_isi {n : Ty} {T x : Str} {pt : Pos} (he : JF X W e m) (hg : Gl X x) (hm : X.mg x = none) (hx : bootBuiltins x = some (.builtin "isinstance")) (hgT : Gl X T) (hmT : X.mg T = none) (hv : bootBuiltins T = some (.type n.nm))
    (hnT : T ≠ "__name__" := by decide) (hdT : (T == ("__debug__" : Str)) = false := by decide) (hn : x ≠ "__name__" := by decide) (hdb : (x == ("__debug__" : Str)) = false := by decide)
    (h1 : starEach [e, .Name T pt] X.env = (false, eval e X.env) :: starEach [.Name T pt] X.env := by rfl) (hpl : (backTo pos (starEach [.Name T pt] X.env)).any (·.1) = false := by rfl) :
    JF X W (.Call (.Name x p) [e, .Name T pt] [] pos) (m1 (fun d => some (.bl (isTy n d))) m) := by
  refine pe_imp (pe_callB call_isi hg hm hx (pa_cons he (pa_cons (pe_bltn (v := .ty n.nm) hgT hmT hv rfl hnT hdT) pa_nil (by rfl)) h1) hn hdb h1 hpl) fun σ H Q h => ?_
  obtain ⟨S0, S, μ, rr, h⟩ := h
  refine ⟨S0, S, μ, rr, Post.bnd (Z' := ZF X.K S0 σ) h fun S1 H1 μ1 d v g1 z1 h1 => ?_⟩
  exact ⟨v, .ty n.nm, .type (tyN d), .type n.nm, isTy n d, rfl, .ty n.nm, tyx z1.2, kit_ty (is_ty n d), h1 S1 H1 _ Gr.refl ⟨z1.1, rfl⟩⟩
theorem jt_chain {a b c : Expr} {ma mb mc : EV D} {op op' : CmpOp} {r r' : R2} {g g' : D → D → Option D} (ho : OpR X (compareOp op) r) (ho' : OpR X (compareOp op') r') (hg : Op2 X.K r g) (hg' : Op2 X.K r' g') (ha : JF X W a ma) (hb : JF X W b mb) (hc : JF X W c mc)
    (hm : lastMarks [op, op'] [b, c] = false := by with_unfolding_all rfl) : JT X W (.Compare a [op, op'] [b, c] pos) (mB (mCh g g' ma mb mc)) :=
  pt_imp (pt_chain ho ho' ha hb hc hm) fun σ H Q h => chain_run hg hg' (test_run h)
/-- len(x) of a name, in passing -/
def mLenB (i : Nat) : EV D := fun μ => bw μ lenD (brw μ i)
theorem j_lenB {i : Nat} {x y : Str} {px : Pos} (hN : X.N[i]? = some x) (hv : Vis X.env.scope x) (hg : Gl X y) (hm : X.mg y = none) (hx : bootBuiltins y = some (.builtin "len")) (hd : (x == ("__debug__" : Str)) = false := by decide) (hcd : (x == ("__classdict__" : Str)) = false := by decide)
    (hn : y ≠ "__name__" := by decide) (hdb : (y == ("__debug__" : Str)) = false := by decide) (h1 : starEach [.Name x px] X.env = (false, eval (.Name x px) X.env) :: starEach [] X.env := by rfl) (hpl : (backTo pos (starEach [] X.env)).any (·.1) = false := by rfl) :
    JF X W (.Call (.Name y p) [.Name x px] [] pos) (mLenB i) := by
  refine pe_imp (pe_callB call_len hg hm hx (pa_cons (pe_var hN hv hd hcd) pa_nil h1) hn hdb h1 hpl) fun σ H Q h => ?_
  obtain ⟨S0, S, μ, rr, h⟩ := h
  unfold mLenB at h
  cases q : brw μ i with
  | none =>
    rw [q] at h
    exact h.elim
  | some d =>
    rw [q] at h
    have h3 : Post X.K X.mg W S0 S σ H (ZF X.K S0 σ) (opt (lenD d) μ) Q := h
    have hs : ∃ v, σ[i]? = some (some v) := by
      unfold brw br at q
      split at q
      · rename_i q2
        obtain ⟨v, S1, S2, e1, _⟩ := rr.sl.take q2
        exact ⟨v, e1⟩
      · rename_i q2
        obtain ⟨v, S1, S2, e1, _⟩ := rr.sl.take q2
        exact ⟨v, e1⟩
      · cases q
    obtain ⟨v, ev⟩ := hs
    refine ⟨v, ev, ?_⟩
    cases q2 : lenD d with
    | none =>
      rw [q2] at h3
      exact h3.elim
    | some c =>
      rw [q2] at h3
      rcases brw_ok rr q ev with p | ⟨ds, a, vs, e1, e2, e3, e4⟩
      · obtain ⟨n, e4, l⟩ := lenD_ok p q2
        subst e4
        exact ⟨v, n, rfl, l, h3 S H _ Gr.refl ⟨rr, rfl⟩⟩
      · subst e1
        subst e2
        cases q2
        exact ⟨_, vs.length, rfl, .inl ⟨vs, SqL.of e3, rfl⟩, h3 S H _ Gr.refl ⟨rr, by rw [e4.length]; rfl⟩⟩
/-- a, b = x, y and a, b, c = x, y, z with plain names: frozen values -/
def mPar (i : List Nat) (a : EV (List D)) : MS := bnd a fun ds => fun μ => if i.length = ds.length ∧ i.all (fun j => decide (j < μ.length)) = true then some (.ok .nx, (i.zip ds).foldl (fun μ q => μ.set q.1 (some (q.2, .z))) μ) else none
theorem R.set {K : Frag} {S0 S : List Addr} {H : Hp} {σ : List (Option V)} {μ : M} {i : Nat} {d : D} {v : V} (r : R K S0 S H σ μ) (p : Rep K (mask H (S0 ++ S)) d v) (hi : i < μ.length) : ∃ S', (∀ a ∈ S', a ∈ S) ∧ R K S0 S' H (σ.set i (some v)) (μ.set i (some (d, .z))) := by
  have hl : σ.length = μ.length := r.sl.len
  exact (r.push p).store (by rw [hl]; exact hi)
theorem js_par2 {i j : Nat} {x y : Str} {a b : Expr} {px py pt : Pos} {kt k2 : Nat} {pt2 : Pos} (hpi : (pin && i == 0) = false) (hpj : (pin && j == 0) = false) (hc : X.calm = true) (hN : X.N.Nodup) (hi : X.N[i]? = some x) (hj : X.N[j]? = some y) (hij : i ≠ j)
    (hx : X.env.scope.names.lookup x = some .local) (hy : X.env.scope.names.lookup y = some .local) (ha : JA X W [a, b] ms)
    (hw : swappedStores [.Tuple [.Name x px, .Name y py] kt pt] (.Tuple [a, b] k2 pt2) X.env = pure (some [x, y]))
    (hs : swapsWithSole [.Tuple [.Name x px, .Name y py] kt pt] (.Tuple [a, b] k2 pt2) pos.line X.env = pure false := by rfl) :
    JS X W pin (.Assign [.Tuple [.Name x px, .Name y py] kt pt] (.Tuple [a, b] k2 pt2) pos) (mPar [i, j] ms) := ps_imp (ps_par hc hN hi hj hij hx hy ha hw hs) fun En σ H h => by
  obtain ⟨S0, S, μ, rr, h⟩ := h
  refine ⟨S0, S, μ, rr, PostS.bnd (Z' := ZFs X.K S0 σ) h fun S1 H1 μ1 ds vs g1 z1 h1 => ?_⟩
  by_cases hh : [i, j].length = ds.length ∧ [i, j].all (fun j => decide (j < μ1.length)) = true
  · rw [if_pos hh] at h1
    match ds, hh, z1, h1 with
    | [d, e], hh, z1, h1 =>
      obtain ⟨v, w, e1, q1, q2⟩ := reps2 z1.2
      have hb := hh.2
      simp only [List.all_cons, List.all_nil, Bool.and_true, Bool.and_eq_true, decide_eq_true_eq] at hb
      obtain ⟨S2, sub2, r2⟩ := z1.1.set q1 hb.1
      obtain ⟨S3, sub3, r3⟩ := r2.set (q2.ex (mask_sub sub2)) (i := j) (by simpa using hb.2)
      exact ⟨v, w, e1, h1 S3 H1 _ (gr_sub fun a ha => sub2 a (sub3 a ha)) ((Keep.set hpi).trans (Keep.set hpj)) r3⟩
  · rw [if_neg hh] at h1
    exact h1.elim
theorem js_par3 {i j l : Nat} {x y z : Str} {a b c : Expr} {px py pz pt : Pos} {kt k2 : Nat} {pt2 : Pos} (hpi : (pin && i == 0) = false) (hpj : (pin && j == 0) = false) (hpl : (pin && l == 0) = false) (hc : X.calm = true) (hN : X.N.Nodup) (hi : X.N[i]? = some x) (hj : X.N[j]? = some y) (hl : X.N[l]? = some z) (hij : i ≠ j) (hil : i ≠ l) (hjl : j ≠ l)
    (hx : X.env.scope.names.lookup x = some .local) (hy : X.env.scope.names.lookup y = some .local) (hz : X.env.scope.names.lookup z = some .local) (ha : JA X W [a, b, c] ms)
    (hw : swappedStores [.Tuple [.Name x px, .Name y py, .Name z pz] kt pt] (.Tuple [a, b, c] k2 pt2) X.env = pure (some [x, y, z]))
    (hs : swapsWithSole [.Tuple [.Name x px, .Name y py, .Name z pz] kt pt] (.Tuple [a, b, c] k2 pt2) pos.line X.env = pure false := by rfl) :
    JS X W pin (.Assign [.Tuple [.Name x px, .Name y py, .Name z pz] kt pt] (.Tuple [a, b, c] k2 pt2) pos) (mPar [i, j, l] ms) := ps_imp (ps_par3 hc hN hi hj hl hij hil hjl hx hy hz ha hw hs) fun En σ H h => by
  obtain ⟨S0, S, μ, rr, h⟩ := h
  refine ⟨S0, S, μ, rr, PostS.bnd (Z' := ZFs X.K S0 σ) h fun S1 H1 μ1 ds vs g1 z1 h1 => ?_⟩
  by_cases hh : [i, j, l].length = ds.length ∧ [i, j, l].all (fun j => decide (j < μ1.length)) = true
  · rw [if_pos hh] at h1
    match ds, hh, z1, h1 with
    | [d, e, f], hh, z1, h1 =>
      obtain ⟨v, w, u, e1, q1, q2, q3⟩ := reps3 z1.2
      have hb := hh.2
      simp only [List.all_cons, List.all_nil, Bool.and_true, Bool.and_eq_true, decide_eq_true_eq] at hb
      obtain ⟨S2, sub2, r2⟩ := z1.1.set q1 hb.1
      obtain ⟨S3, sub3, r3⟩ := r2.set (q2.ex (mask_sub sub2)) (i := j) (by simpa using hb.2.1)
      obtain ⟨S4, sub4, r4⟩ := r3.set ((q3.ex (mask_sub sub2)).ex (mask_sub sub3)) (i := l) (by simpa using hb.2.2)
      exact ⟨v, w, u, e1, h1 S4 H1 _ (gr_sub fun a ha => sub2 a (sub3 a (sub4 a ha))) (((Keep.set hpi).trans (Keep.set hpj)).trans (Keep.set hpl)) r4⟩
  · rw [if_neg hh] at h1
    exact h1.elim
end
end Mn
end
section
/-! Mn: list comprehensions. -/
namespace Mn
open PySem PySem.Spec PyProof.Rows L2

/-- the slots forgotten -/
def wp : List Nat → M → M
  | [], μ => μ
  | v :: vs, μ => wp vs (μ.set v none)
theorem wp_nil {μ : M} : wp [] μ = μ := rfl
theorem wp_cons {v : Nat} {vs : List Nat} {μ : M} : wp (v :: vs) μ = wp vs (μ.set v none) := rfl
theorem Sls.wipe {f : Kd → D → V → List Addr → Prop} {σ : List (Option V)} : ∀ {vs : List Nat} {μ : M} {S : List Addr}, Sls f σ μ S → ∃ S', Sls f σ (wp vs μ) S' ∧ S'.Sublist S
  | [], μ, S, h => ⟨S, h, List.Sublist.refl _⟩
  | v :: vs, μ, S, h => by
    obtain ⟨S1, h1, p1⟩ := h.forget (i := v)
    obtain ⟨S2, h2, p2⟩ := Sls.wipe (vs := vs) h1
    exact ⟨S2, h2, p2.trans p1⟩
theorem wp_set {v : Nat} {vs : List Nat} {μ : M} : wp vs (μ.set v none) = (wp vs μ).set v none := by
  induction vs generalizing μ with
  | nil => rfl
  | cons w vs ih =>
    rw [wp_cons, wp_cons]
    by_cases e : v = w
    · subst e
      exact ih
    · rw [List.set_comm _ _ e, ih]
theorem Sls.toWipe {f : Kd → D → V → List Addr → Prop} {σ : List (Option V)} {S : List Addr} : ∀ (vs : List Nat) {μ : M}, Sls f σ (wp vs μ) S → Sls f (L2.wipe σ vs) (wp vs μ) S
  | [], _, h => h
  | v :: vs, μ, h => by
    have h' : Sls f σ (wp vs (μ.set v none)) S := h
    have h2 := Sls.toWipe vs h'
    show Sls f ((L2.wipe σ vs).set v none) (wp vs (μ.set v none)) S
    rw [wp_set] at h2 ⊢
    exact h2.forgetV
theorem Sls.ofWipe {f : Kd → D → V → List Addr → Prop} {σ : List (Option V)} {S : List Addr} : ∀ (vs : List Nat) {μ : M}, Sls f (L2.wipe σ vs) (wp vs μ) S → Sls f σ (wp vs μ) S
  | [], _, h => h
  | v :: vs, μ, h => by
    have h' : Sls f ((L2.wipe σ vs).set v none) (wp vs (μ.set v none)) S := h
    refine Sls.ofWipe vs ?_
    rw [wp_set] at h' ⊢
    by_cases hv : v < (L2.wipe σ vs).length
    · have h3 := h'.forgetV (y := (L2.wipe σ vs)[v])
      rw [List.set_set, List.set_getElem_self] at h3
      exact h3
    · rw [List.set_eq_of_length_le (by omega)] at h'
      exact h'
theorem wipe_twice (σ : Sg) (vs : List Nat) : L2.wipe (L2.wipe σ vs) vs = L2.wipe σ vs := by
  apply List.ext_getElem?
  intro j
  by_cases h : j ∈ vs
  · have z : ∀ (τ : Sg), j < τ.length → (L2.wipe τ vs)[j]? = some none := by
      intro τ hj
      induction vs with
      | nil => cases h
      | cons v vs ih =>
        show ((L2.wipe τ vs).set v none)[j]? = _
        by_cases e : v = j
        · subst e
          rw [List.getElem?_set_self (by rw [L2.wipe_length]; exact hj)]
        · rw [List.getElem?_set_ne e]
          exact ih ((List.mem_cons.mp h).resolve_left fun z => e z.symm)
    by_cases hj : j < σ.length
    · rw [z _ hj, z _ (by rw [L2.wipe_length]; exact hj)]
    · rw [List.getElem?_eq_none (by rw [L2.wipe_length, L2.wipe_length]; omega), List.getElem?_eq_none (by rw [L2.wipe_length]; omega)]
  · rw [L2.wipe_out h]
theorem wipe_same {ts vs : List Nat} {σ σ' : Sg} (h : Same ts σ σ') (hs : ts.all (fun t => vs.contains t) = true) : L2.wipe σ' vs = L2.wipe σ vs := by
  apply List.ext_getElem?
  intro j
  by_cases hj : j ∈ vs
  · have z : ∀ (τ : Sg), j < τ.length → (L2.wipe τ vs)[j]? = some none := by
      intro τ hl
      clear hs
      induction vs with
      | nil => cases hj
      | cons v vs ih =>
        show ((L2.wipe τ vs).set v none)[j]? = _
        by_cases e : v = j
        · subst e
          rw [List.getElem?_set_self (by rw [L2.wipe_length]; exact hl)]
        · rw [List.getElem?_set_ne e]
          exact ih ((List.mem_cons.mp hj).resolve_left fun z => e z.symm)
    by_cases hl : j < σ.length
    · rw [z _ hl, z _ (by rw [h.1]; exact hl)]
    · rw [List.getElem?_eq_none (by rw [L2.wipe_length, h.1]; omega), List.getElem?_eq_none (by rw [L2.wipe_length]; omega)]
  · rw [L2.wipe_out hj, L2.wipe_out hj]
    refine h.2 j fun z => hj ?_
    have := List.all_eq_true.mp hs j z
    simpa using this
section
variable {K : Frag} {S0 S S' : List Addr} {H H' : Hp} {σ τ : List (Option V)} {μ : M} {d : D} {k : Kd} {v : V} {i : Nat}
/-- into the block -/
theorem R.wipe (r : R K S0 S H σ μ) (vs : List Nat) : ∃ S', (∀ a ∈ S', a ∈ S) ∧ R K S0 S' H (L2.wipe σ vs) (wp vs μ) := by
  obtain ⟨S', h, p⟩ := Sls.wipe (vs := vs) r.sl
  exact ⟨S', fun a ha => p.subset ha, r.shrink (Sls.toWipe vs h) (fun a ha => p.subset ha) (p.nodup r.nd)⟩
/-- the next turn -/
theorem R.rewipe (r : R K S0 S H σ μ) (vs : List Nat) (e : L2.wipe σ vs = L2.wipe τ vs) : ∃ S', (∀ a ∈ S', a ∈ S) ∧ R K S0 S' H (L2.wipe τ vs) (wp vs μ) := by
  rw [← e]
  exact r.wipe vs
/-- out of the block -/
theorem R.unwipe {vs : List Nat} (r : R K S0 S H (L2.wipe σ vs) μ) : ∃ S', (∀ a ∈ S', a ∈ S) ∧ R K S0 S' H σ (wp vs μ) := by
  obtain ⟨S', h, p⟩ := Sls.wipe (vs := vs) r.sl
  exact ⟨S', fun a ha => p.subset ha, r.shrink (Sls.ofWipe vs h) (fun a ha => p.subset ha) (p.nodup r.nd)⟩
theorem mask_perm {S S' : List Addr} (h : ∀ a, a ∈ S ↔ a ∈ S') : mask H S = mask H S' := by
  funext a
  unfold mask
  by_cases z : a ∈ S
  · rw [if_pos z, if_pos ((h a).mp z)]
  · rw [if_neg z, if_neg fun q => z ((h a).mpr q)]
end
/-- a list that is kept comes ahead -/
theorem R.unlock {K : Frag} {S0 S : List Addr} {H : Hp} {σ : List (Option V)} {μ : M} {L : Addr} {vs : List V} {ds : List D} (r : R K (L :: S0) S H σ μ) (hL : H L = some (.lst vs)) (n0 : L ∉ S0) (q : Reps K (mask H (L :: S0 ++ S)) ds vs) :
    R K S0 (L :: S) H (some (.ref L) :: σ) (some (.lst ds, .s .z) :: μ) := by
  have mm : ∀ a, a ∈ L :: S0 ++ S ↔ a ∈ S0 ++ L :: S := fun a => by simp; constructor <;> (rintro (z | z | z) <;> simp [z])
  have em : mask H (L :: S0 ++ S) = mask H (S0 ++ L :: S) := mask_perm mm
  have nS : L ∉ S := fun z => r.dis L z List.mem_cons_self
  refine ⟨fun a ha => r.t0 a (List.mem_cons_of_mem _ ha), fun a ha => ?_, List.nodup_cons.mpr ⟨nS, r.nd⟩, ⟨.ref L, [L], S, rfl, rfl, ⟨L, vs, [], rfl, hL, rfl, ?_⟩, ?_⟩⟩
  · rcases List.mem_cons.mp ha with e | z
    · rw [e]
      exact n0
    · exact fun w => r.dis a z (List.mem_cons_of_mem _ w)
  · have : ∀ {ds : List D} {vs : List V}, Reps K (mask H (S0 ++ L :: S)) ds vs → OwnsF (Own K (mask H (S0 ++ L :: S)) H .z) ds vs [] := by
      intro ds
      induction ds with
      | nil => exact fun h => ⟨h, rfl⟩
      | cons d ds ih =>
        intro vs h
        obtain ⟨v, r, e, h1, h2⟩ := h
        exact ⟨v, r, [], [], e, rfl, ⟨rfl, h1⟩, ih h2⟩
    exact this (by rw [← em]; exact q)
  · have := r.sl
    unfold own at this ⊢
    rw [em] at this
    exact this
/-- a fresh list kept -/
theorem R.lock {K : Frag} {S0 S : List Addr} {H : Hp} {σ : List (Option V)} {μ : M} {L : Addr} {o : HO} (r : R K S0 S H σ μ) (hL : H L = none) : R K (L :: S0) S (upd H L o) σ μ where
  t0 := fun a ha => by
    rcases List.mem_cons.mp ha with e | z
    · rw [e, upd_same]
      exact fun z => nomatch z
    · rw [upd_ne (fun e => r.t0 a z (by rw [e]; exact hL))]
      exact r.t0 a z
  dis := fun a ha z => by
    rcases List.mem_cons.mp z with e | z
    · exact r.tr a (List.mem_append_right _ ha) (by rw [e]; exact hL)
    · exact r.dis a ha z
  nd := r.nd
  sl := r.sl.mono fun k d v T hT q => q.mono (mask_mono fun a u n e => ⟨fun z => by
    rcases List.mem_append.mp z with z | z
    · rcases List.mem_cons.mp z with z | z
      · rw [z, hL] at e
        cases e
      · exact n (List.mem_append_left _ z)
    · exact n (List.mem_append_right _ z), Ex.new hL a u e⟩) fun a ha => upd_ne fun e => r.tr a (List.mem_append_right _ (hT a ha)) (by rw [e]; exact hL)
/-- what is kept is written -/
theorem R.kept {K : Frag} {S0 S : List Addr} {H : Hp} {σ : List (Option V)} {μ : M} {L : Addr} {o : HO} (r : R K (L :: S0) S H σ μ) : R K (L :: S0) S (upd H L o) σ μ where
  t0 := fun a ha => by
    by_cases e : a = L
    · rw [e, upd_same]
      exact fun z => nomatch z
    · rw [upd_ne e]
      exact r.t0 a ha
  dis := r.dis
  nd := r.nd
  sl := r.sl.mono fun k d v T hT q => q.mono (mask_mono fun a u n e => ⟨n, by
    rw [upd_ne (fun z => n (List.mem_append_left _ (by rw [z]; exact List.mem_cons_self)))]
    exact e⟩) fun a ha => upd_ne fun e => r.dis a (hT a ha) (by rw [e]; exact List.mem_cons_self)
theorem mask_kept {S0 S : List Addr} {H : Hp} {L : Addr} {o : HO} : mask (upd H L o) (L :: S0 ++ S) = mask H (L :: S0 ++ S) := by
  funext a
  unfold mask
  by_cases z : a ∈ L :: S0 ++ S
  · rw [if_pos z, if_pos z]
  · rw [if_neg z, if_neg z, upd_ne fun e => z (by rw [e]; exact List.mem_append_left _ List.mem_cons_self)]

def RsQ {α β : Type} (r : Option (Res α × M)) (f : α → M → Option (Res β × M)) : Option (Res β × M) := match r with
  | some (.ok x, μ') => f x μ'
  | _ => none
theorem RsQ_ok {α β : Type} {f : α → M → Option (Res β × M)} {x : α} {μ : M} : RsQ (some (.ok x, μ)) f = f x μ := rfl
theorem RsQ_some {α β : Type} {r : Option (Res α × M)} {f : α → M → Option (Res β × M)} {z : Res β × M} (h : RsQ r f = some z) : ∃ x μ', r = some (.ok x, μ') ∧ f x μ' = some z := by
  unfold RsQ at h
  split at h
  · exact ⟨_, _, rfl, h⟩
  · cases h
def lg {β : Type} (r : Option M) (f : M → Option (Res β × M)) : Option (Res β × M) := match r with
  | some μ => f μ
  | none => none
theorem lg_s {β : Type} {μ : M} {f : M → Option (Res β × M)} : lg (some μ) f = f μ := rfl
theorem lg_some {β : Type} {r : Option M} {f : M → Option (Res β × M)} {z : Res β × M} (h : lg r f = some z) : ∃ μ, r = some μ ∧ f μ = some z := by
  unfold lg at h
  split at h
  · exact ⟨_, rfl, h⟩
  · cases h
/-- the turns of a comprehension; what raises within is not told -/
def lcT (vs : List Nat) (g : TgE) (t : EV Bool) (e : EV D) : List D → EV (List D)
  | [] => fun μ => some (.ok [], μ)
  | d :: ds => fun μ => lg (g (d, .z) μ) fun μ1 => RsQ (t μ1) fun b μ2 => cond b (RsQ (e μ2) fun y μ3 => RsQ (lcT vs g t e ds (wp vs μ3)) fun ys μ4 => some (.ok (y :: ys), μ4)) (lcT vs g t e ds (wp vs μ2))
theorem lcT_nil {vs : List Nat} {g : TgE} {t : EV Bool} {e : EV D} {μ : M} : lcT vs g t e [] μ = some (.ok [], μ) := rfl
theorem lcT_cons {vs : List Nat} {g : TgE} {t : EV Bool} {e : EV D} {d : D} {ds : List D} {μ : M} : lcT vs g t e (d :: ds) μ = lg (g (d, .z) μ) fun μ1 => RsQ (t μ1) fun b μ2 => cond b (RsQ (e μ2) fun y μ3 => RsQ (lcT vs g t e ds (wp vs μ3)) fun ys μ4 => some (.ok (y :: ys), μ4)) (lcT vs g t e ds (wp vs μ2)) := rfl
def lcW (vs : List Nat) (μ : M) (r : Option (Res (List D) × M)) : Option (Res (D × Kd) × M) := RsQ r fun ds μ' => some (.ok (.lst ds, .s .z), wp vs μ')
/-- [e for target in it if t] -/
def mLc (it : EV (List D)) (vs : List Nat) (g : TgE) (t : EV Bool) (e : EV D) : EV (D × Kd) := bnd it fun ds => fun μ => bif decide (ds.length ≤ 16777216) then lcW vs μ (lcT vs g t e ds (wp vs μ)) else none
section
variable {X : Cx} {W : WX} {pin : Bool} {e elt tg iter c : Expr} {mi : EV (List D)} {g : TgE} {us : List Nat} {t : EV Bool} {m : EV D} {pos p : Pos}
abbrev W0 : WX := fun _ _ _ _ => False
abbrev JTs (X : Cx) (W : WX) (ifs : List Expr) (t : EV Bool) : Prop := PTs X ifs (tT X.K X.mg W t)
theorem pts_imp {ifs : List Expr} {t t' : TT} (h : PTs X ifs t) (i : ∀ σ H Q, t' σ H Q → t σ H Q) : PTs X ifs t' := ⟨fun pins s σ H Q I q => h.run pins s σ H Q I (i σ H Q q)⟩
theorem jts_nil : JTs X W [] (giv true) := pts_imp pts_nil fun σ H Q h => by
  obtain ⟨S0, S, μ, r, h⟩ := h
  exact h S H true Gr.refl ⟨r, rfl⟩
theorem jts_one (h : JT X W c t) : JTs X W [c] t := pts_one h
theorem lc_run {K : Frag} {mg : Str → Option Value} {vs : List Nat} {σ : Sg} {H : Hp} {Q : VK} (hus : us.all (fun t => vs.contains t) = true) (h : tO K mg W (mLc mi vs g t m) σ H Q) : L2.tLc (tI K mg W mi) (tG K us g) (tT K mg W0 t) (tF K mg W0 m) vs σ H Q := by
  obtain ⟨S0, S, μ, r, h⟩ := h
  refine ⟨S0, S, μ, r, Post.bnd (Z' := ZIt K S0 σ) h fun S1 H1 μ1 ds J g1 z1 h1 => ?_⟩
  obtain ⟨r1, it1⟩ := z1
  intro L hL
  have nL : L ∉ S0 ++ S1 := fun z => r1.tr L z hL
  have h1 : Post K mg W S0 S1 σ H1 (ZO K S0 σ) (bif decide (ds.length ≤ 16777216) then lcW vs μ1 (lcT vs g t m ds (wp vs μ1)) else none) Q := h1
  cases hl0 : decide (ds.length ≤ 16777216) with
  | false =>
    rw [hl0] at h1
    exact h1.elim
  | true =>
  rw [hl0] at h1
  have hl : ds.length ≤ 16777216 := of_decide_eq_true hl0
  have h1' : Post K mg W S0 S1 σ H1 (ZO K S0 σ) (lcW vs μ1 (lcT vs g t m ds (wp vs μ1))) Q := h1
  cases hall : lcT vs g t m ds (wp vs μ1) with
  | none =>
    rw [hall] at h1'
    exact h1'.elim
  | some z =>
  obtain ⟨rz, μe⟩ := z
  cases rz with
  | exn e =>
    rw [hall] at h1'
    exact h1'.elim
  | ok all =>
  rw [hall] at h1'
  have fin : ∀ S' H' b, Gr S1 H1 S' H' → ZO K S0 σ S' H' (wp vs μe) (.lst all, .s .z) b → Q b H' := h1'
  obtain ⟨Sa, suba, ra⟩ := r1.wipe vs
  let Inv' : Nat → Hp → Prop := fun i H2 => ∃ S2 μ2 acc accv rest, Gr S1 H1 S2 H2 ∧ R K (L :: S0) S2 H2 (L2.wipe σ vs) μ2 ∧ H2 L = some (.lst accv) ∧ Reps K (mask H2 (L :: S0 ++ S2)) acc accv ∧ acc.length ≤ i ∧ acc ++ rest = all ∧ lcT vs g t m (ds.drop i) μ2 = some (.ok rest, μe)
  refine ⟨fun i m H2 => m + i = ds.length ∧ Inv' i H2, ⟨ds.length, rfl, Sa, wp vs μ1, [], [], all, ⟨fun a o e n => by rw [upd_ne (ne_of_none e hL)]; exact e, fun a ha => .inl (suba a ha)⟩, ra.lock hL, upd_same, Reps.nil, Nat.zero_le _, rfl, by rw [List.drop_zero]; exact hall⟩, fun i n H2 w => ?_⟩
  obtain ⟨en, S2, μ2, acc, accv, rest, g2, r2, hL2, q2, la, ea, run2⟩ := w
  have exI : Ex (mask H1 (S0 ++ S1)) (mask H2 (L :: S0 ++ S2)) := fun a o e => by
    obtain ⟨n1, e1⟩ := mask_some.mp e
    have := g2.mask (S0 := S0) a o e
    obtain ⟨n2, e2⟩ := mask_some.mp this
    refine mask_some.mpr ⟨fun z => ?_, e2⟩
    rcases List.mem_append.mp z with z | z
    · rcases List.mem_cons.mp z with z | z
      · rw [z, hL] at e1
        cases e1
      · exact n2 (List.mem_append_left _ z)
    · exact n2 (List.mem_append_right _ z)
  obtain ⟨ig, is⟩ := it1 i (L :: S0 ++ S2) H2 r2.tr exI
  cases q : ds[i]? with
  | none =>
    have hle : ds.length ≤ i := List.getElem?_eq_none_iff.mp q
    rw [List.drop_eq_nil_of_le hle] at run2
    cases run2
    rw [List.append_nil] at ea
    subst ea
    obtain ⟨S3, sub3, r3⟩ := r2.unwipe
    refine .inl ⟨is hle, fin (L :: S3) H2 (.ref L) ⟨g2.keep, fun a ha => ?_⟩ (r3.unlock hL2 (fun z => nL (List.mem_append_left _ z)) (q2.ex (mask_sub sub3)))⟩
    rcases List.mem_cons.mp ha with e | z
    · rw [e]
      exact .inr hL
    · exact g2.new a (sub3 a z)
  | some d =>
    obtain ⟨hlt, hd⟩ := List.getElem?_eq_some_iff.mp q
    rw [List.drop_eq_getElem_cons hlt, hd, lcT_cons] at run2
    obtain ⟨go, yl⟩ := ig d q
    obtain ⟨μ3, eg, run3⟩ := lg_some run2
    obtain ⟨b, μ4, et, run4⟩ := RsQ_some run3
    refine .inr ⟨go, Inv' (i + 1), fun H' hN => ⟨n - 1, by omega, by omega, hN⟩, fun x H3 hy => ?_⟩
    obtain ⟨ex3, px⟩ := yl x H3 hy
    refine ⟨L :: S0, S2, μ2, (d, .z), (r2.ex ex3).push px, μ3, eg, fun S3 σ3 sub3 sm r3 => ?_⟩
    have ew : L2.wipe σ3 vs = L2.wipe σ vs := (wipe_same sm hus).trans (wipe_twice σ vs)
    have q3 : Reps K (mask H3 (L :: S0 ++ S3)) acc accv := (q2.ex (Gr.ex ex3).mask).ex (mask_sub sub3)
    have hL3 : H3 L = some (.lst accv) := ex3 L _ hL2
    have g3 : Gr S1 H1 S3 H3 := g2.trans ((Gr.ex ex3).trans (gr_sub sub3))
    refine ⟨ew, L :: S0, S3, μ3, r3, ?_⟩
    rw [et]
    intro S4 H4 b' g4 z4
    obtain ⟨r4, eb⟩ := z4
    subst eb
    have hL4 : ∀ {S' H'}, Gr S3 H3 S' H' → H' L = some (.lst accv) := fun {S' H'} gg => gg.keep L _ hL3 fun z => r3.dis L z List.mem_cons_self
    cases b with
    | false =>
      rw [if_neg Bool.false_ne_true]
      obtain ⟨S5, sub5, r5⟩ := r4.rewipe vs ew
      exact ⟨S5, wp vs μ4, acc, accv, rest, g3.trans (g4.trans (gr_sub sub5)), r5, hL4 g4, (q3.ex g4.mask).ex (mask_sub sub5), by omega, ea, run4⟩
    | true =>
      rw [if_pos rfl]
      obtain ⟨y, μ5, ee, run5⟩ := RsQ_some (show RsQ (m μ4) _ = _ from run4)
      obtain ⟨ys, μ6, er, run6⟩ := RsQ_some run5
      cases run6
      refine ⟨L :: S0, S4, μ4, r4, ?_⟩
      rw [ee]
      intro S5 H5 v g5 z5
      obtain ⟨r5, p5⟩ := z5
      have g45 : Gr S3 H3 S5 H5 := g4.trans g5
      obtain ⟨S6, sub6, r6⟩ := r5.rewipe vs ew
      have lv : accv.length = acc.length := q3.length
      refine ⟨accv, hL4 g45, by rw [lv, sizeLine_eq]; omega, S6, wp vs μ5, acc ++ [y], accv ++ [v], ys, ?_, r6.kept, upd_same, ?_, by simp; omega, by rw [List.append_assoc]; exact ea, er⟩
      · have gg := g3.trans (g45.trans (gr_sub sub6))
        exact ⟨fun a o e n => by rw [upd_ne (ne_of_none e hL)]; exact gg.keep a o e n, gg.new⟩
      · rw [mask_kept]
        exact ((q3.ex g45.mask).ex (mask_sub sub6)).append (Reps.cons (p5.ex (mask_sub sub6)) Reps.nil)
end
end Mn
end
section
/-! Mn: what is walked: texts, enumerate, zip. -/
namespace Mn
open PySem PySem.Spec PyProof.Rows L2
section
variable {prog : Program} {w : World} {A : Around} {E : Value → Shared → Prop} {s : Shared}
theorem meets_enum1 {v : Value} {o : Obj} {H : Heap → Prop} (B : Begins v o H) :
    Meets (Builtin.«enumerate.__new__» ⟨[.type "enumerate", v], []⟩) (fun _ R s => H s.heap ∧
      R (.ok (.ret (.ref (s.heap.push o).objs.size))) { s with heap := (s.heap.push o).push { cls := .type "enumerate", data := .fields #[.none, .bool false, .ref s.heap.objs.size, rawInt 0, .none, .none] } }) :=
  .of_wp fun prog w A R s h => by
    obtain ⟨hp, g, d, tk, os⟩ := s; obtain ⟨h1, h⟩ := h
    have hsub := sub_enumerate
    have q1 : ∀ {A' : Around} {E : Value → Shared → Prop} {Q : Value → Shared → Prop}, Q (.ref hp.objs.size) ⟨hp.push o, g, d, tk, os⟩ → wpAny (model prog w) A' (pyIter v) Q E ⟨hp, g, d, tk, os⟩ :=
      fun q => B.iter prog w _ _ ⟨hp, g, d, tk, os⟩ _ h1 q
    wp_walk using q1
    refine wpAny_stack_any fun st => wpAny_pure ?_
    split
    · rename_i c _ _ _ _ _
      cases (c == Value.type "enumerate")
      · wp_walk using q1
        exact ⟨_, rfl, h⟩
      · wp_walk using q1
        exact ⟨_, rfl, h⟩
    · wp_walk using q1
      exact ⟨_, rfl, h⟩
theorem call_enum1 {v : Value} {o : Obj} {H : Heap → Prop} {Q : Value → Shared → Prop} (B : Begins v o H) (h1 : H s.heap)
    (h : ∀ h', IsEnum h' (s.heap.objs.size + 1) s.heap.objs.size 0 .none → h'.get? s.heap.objs.size = some o → h'.objs.size = s.heap.objs.size + 2 →
      (∀ b o, s.heap.get? b = some o → h'.get? b = some o) → Q (.ref (s.heap.objs.size + 1)) { s with heap := h' }) :
    wpAny (model prog w) A (call (.type "enumerate") [v]) Q E s := by
  refine callType_new F.called_enumerate (by decide) (F.typeCall_enumerate_1 _) (F.newCall_enumerate_1 _) (fun obj => F.args_object_init_2 obj _) F.entry_enumerate_new
    (meets_enum1 B) ⟨h1, ?_⟩
  have hz : (s.heap.push o).objs.size = s.heap.objs.size + 1 := Heap.size_push ..
  show _ ∧ _
  rw [hz]
  have he : IsEnum ((s.heap.push o).push { cls := .type "enumerate", data := .fields #[.none, .bool false, .ref s.heap.objs.size, rawInt 0, .none, .none] }) (s.heap.objs.size + 1) s.heap.objs.size 0 .none := by
    have := Heap.get?_push_size (s.heap.push o) (o := { cls := .type "enumerate", data := .fields #[.none, .bool false, .ref s.heap.objs.size, rawInt 0, .none, .none] }) rfl
    rw [hz] at this; exact this
  refine ⟨⟨_, he, rfl⟩, h _ he (Heap.get?_push_of_some _ (Heap.get?_push_size _ B.free)) (by rw [Heap.size_push, hz]) fun b o x => Heap.get?_push_of_some _ (Heap.get?_push_of_some _ x)⟩
end
/-- the tuple at a or the text x by turns, each item in a new pair -/
def IteT (K : PySem.W.Frag) (a : Addr) : It :=
  ⟨fun i H => ∃ (xs : List V) (x : V), SqT K H a xs ∧ xs[i]? = some x, fun i H v H' => ∃ T x, v = .ref T ∧ H T = none ∧ H' = upd H T (.tup [.int (i : Nat), x]) ∧ ∀ xs, SqT K H a xs → xs[i]? = some x, fun i H => ∃ xs : List V, SqT K H a xs ∧ xs.length ≤ i⟩
def IteS (x : Str) : It :=
  ⟨fun i _ => i < x.cps.size, fun i H v H' => ∃ T c, v = .ref T ∧ H T = none ∧ H' = upd H T (.tup [.int (i : Nat), .str ⟨#[c]⟩]) ∧ x.cps[i]? = some c, fun i _ => x.cps.size ≤ i⟩
theorem turn_enumT {P : Program} {w : World} {K : PySem.W.Frag} {elts : List Expr} {kk : Nat} {tpos : Pos} (a e it : Addr) :
    Turn P w K (.Tuple elts kk tpos) (IteT K a) [e, it] e (fun i h => (∃ old, IsEnum h e it ((i : Nat) : Int) old) ∧ h.IsTupleIter it a i ∧ e ≠ it) where
  mem := by simp
  obj := fun i h st b hb => by
    obtain ⟨⟨old, he⟩, ⟨o, ho, hc, hd⟩, _⟩ := st
    have e' : b = e ∨ b = it := by simpa using hb
    rcases e' with z | z
    · rw [z]; exact ⟨_, he, fun v q => nomatch q⟩
    · rw [z]; exact ⟨o, ho, fun v q => by rw [hd] at q; cases q⟩
  keep := fun i h h' st k => let ⟨⟨old, he⟩, hi, hne⟩ := st; ⟨⟨old, k e (by simp) _ he⟩, hi.at fun o q => k it (by simp) o q, hne⟩
  item := by
    intro X hP hw hK hc i pins s σ H E I hf st hg
    subst hP hw hK
    obtain ⟨⟨old, he⟩, hit, hne⟩ := st
    obtain ⟨xs, x, hq, hx⟩ := hg
    obtain ⟨its, rv, p, hz⟩ := I.tuple hq
    obtain ⟨u, hu, ru⟩ := rv.get hx
    have hel : e < s.heap.objs.size := Heap.lt_size he
    have hil : it < s.heap.objs.size := by obtain ⟨_, q, _⟩ := hit; exact Heap.lt_size q
    have p' : s.heap.IsTuple a its.toArray := p
    have hea : e ≠ a := fun z => by
      obtain ⟨o, ho, hc, _⟩ := id p'
      rw [← z] at ho
      have e4 := he.symm.trans ho
      rw [← Option.some.inj e4] at hc
      exact absurd (Value.type.inj hc) (by decide)
    have hia : a ≠ it := fun z => by
      obtain ⟨o, ho, hc, _⟩ := id p'
      obtain ⟨o2, ho2, hc2, _⟩ := id hit
      rw [z] at ho
      have e3 := ho2.symm.trans ho
      cases e3
      rw [hc] at hc2
      exact absurd (Value.type.inj hc2) (by decide)
    have hlt : i < its.toArray.size := by
      rw [List.size_toArray, ← rv.length]
      exact (List.getElem?_eq_some_iff.mp hx).1
    refine wpAny_pyNext_enum_itemD (Draws.tuple (A := X.A.in1) (I.ok.hd hc) it a hia its.toArray) he ⟨hit, p'⟩ hlt hne (by simp [hne, hea]) fun y h' tk hy ho hst' hT hsz hk => ?_
    have ey : y = u := by
      have : its.toArray[i]? = some u := by simpa using hu
      rw [hy] at this
      exact Option.some.inj this
    subst ey
    refine ⟨_, rfl, wpAny_letOwnedTupleGo_enum (s := { s with heap := h', toks := tk + 1 }) ho fun h'' he' sb => ?_⟩
    have hT2 : h''.get? s.heap.objs.size = some { cls := .type "tuple", data := .seq #[.int i tk, y] } := (sb.2 _ (Nat.ne_of_gt hel)).trans hT
    have new : ObjOk X.prog X.w (upd H s.heap.objs.size (.tup [.int (i : Nat), x])) h'' s.heap.objs.size (.tup [.int (i : Nat), x]) :=
      ⟨by show 2 ≤ sizeLine; decide, [.int i tk, y], .cons ⟨_, rfl⟩ (.cons ru .nil), ⟨_, hT2, rfl, _, rfl⟩⟩
    have I1 : Inv X pins σ (upd H s.heap.objs.size (.tup [.int (i : Nat), x])) { s with heap := h'', toks := tk + 1 } :=
      I.turnedNew (ch := [e, it]) (fun b ob hb q => (sb.2 b (fun z => hb (by simp [z]))).trans (hk b ob (fun z => hb (by simp [z])) (fun z => hb (by simp [z])) q)) hf (Nat.le_refl _) new
    refine ⟨.ref s.heap.objs.size, _, I1, rfl, ⟨_, x, rfl, I.hok.fresh (Nat.le_refl _), rfl, fun ys hy => by rw [I.tuple_inj hy hq]; exact hx⟩, ⟨⟨y, ?_⟩, hst'.1.at fun o q => (sb.2 it (Ne.symm hne)).trans q, hne⟩, fun b hb => ?_⟩
    · have e1 : ((i + 1 : Nat) : Int) = (i : Int) + 1 := by omega
      rw [e1]; exact he'
    · have hb' : b < s.heap.objs.size := by
        have e' : b = e ∨ b = it := by simpa using hb
        rcases e' with z | z
        · rw [z]; exact hel
        · rw [z]; exact hil
      rw [upd_ne (Nat.ne_of_lt hb')]
      exact (hf b hb).1
  done := by
    intro X hP hw hK hc i pins s σ H E I hf st hg
    subst hP hw hK
    obtain ⟨⟨old, he⟩, hit, hne⟩ := st
    obtain ⟨xs, hq, hx⟩ := hg
    obtain ⟨its, rv, p, hz⟩ := I.tuple hq
    obtain ⟨f0, f1, f2, f3, f4, f5⟩ := hf it (by simp)
    have hl := rv.length
    have p' : s.heap.IsTuple a its.toArray := p
    have hT : s.TypeIs (.ref e) "enumerate" := ⟨_, he, rfl⟩
    unfold pyNext
    refine wpAny_bind (wpAny_attempt (wpAny_callSpecial?_slot (name := Str.ofString "__next__") hT F.slot_enumerate_next
      (wpAny_call_entry F.slot_enumerate_next hT F.entry_enumerate_next ?_ (F.args_enumerate_next_1 _))))
    show wpAny _ _ (field (.ref e) 2 >>= _) _ _ _
    refine wpAny_bind (wpAny_field he rfl (x := .ref it) rfl ?_)
    refine wpAny_bind (wpAny_nextOf_tuple_end (I.ok.hd hc) hit p' (by simp; omega) fun h' x eb hx' => ?_)
    obtain ⟨o, ho, hc⟩ := hx'
    refine wpAny_bind (wpAny_isInstance (T := "StopIteration") (b := true) ⟨o, ho, hc⟩ isSubtype_stop ?_)
    exact wpAny_pure ⟨rfl, I.turned (t' := s.toks) (fun b o hb q => eb b o hb q) f0 f1 f3 f4 f5⟩
  self := fun A i s Q E st h => let ⟨⟨_, he⟩, _⟩ := st; wpAny_pyIter_enum he h
theorem turn_enumS {P : Program} {w : World} {K : PySem.W.Frag} {elts : List Expr} {kk : Nat} {tpos : Pos} (x : Str) (t : Tok) (e it : Addr) :
    Turn P w K (.Tuple elts kk tpos) (IteS x) [e, it] e (fun i h => (∃ old, IsEnum h e it ((i : Nat) : Int) old) ∧ h.IsStrIter it (strIterType x) x t i ∧ e ≠ it) where
  mem := by simp
  obj := fun i h st b hb => by
    obtain ⟨⟨old, he⟩, ⟨o, ho, hc, hd⟩, _⟩ := st
    have e' : b = e ∨ b = it := by simpa using hb
    rcases e' with z | z
    · rw [z]; exact ⟨_, he, fun v q => nomatch q⟩
    · rw [z]; exact ⟨o, ho, fun v q => by rw [hd] at q; cases q⟩
  keep := fun i h h' st k => let ⟨⟨old, he⟩, hi, hne⟩ := st; ⟨⟨old, k e (by simp) _ he⟩, (let ⟨o, ho, r⟩ := hi; ⟨o, k it (by simp) o ho, r⟩), hne⟩
  item := by
    intro X hP hw hK hc i pins s σ H E I hf st hg
    subst hP hw hK
    obtain ⟨⟨old, he⟩, hit, hne⟩ := st
    have hg' : i < x.cps.size := hg
    have hel : e < s.heap.objs.size := Heap.lt_size he
    have hil : it < s.heap.objs.size := by obtain ⟨_, q, _⟩ := hit; exact Heap.lt_size q
    refine wpAny_pyNext_enum_itemD (Draws.text (A := X.A.in1) (I.ok.hd hc) it x t) he hit hg' hne (by simp [hne]) fun y h' tk hy ho hst' hT hsz hk => ?_
    obtain ⟨c, u, hcx, ey⟩ := hy
    subst ey
    refine ⟨_, rfl, wpAny_letOwnedTupleGo_enum (s := { s with heap := h', toks := tk + 1 }) ho fun h'' he' sb => ?_⟩
    have hT2 : h''.get? s.heap.objs.size = some { cls := .type "tuple", data := .seq #[.int i tk, .str ⟨#[c]⟩ u] } := (sb.2 _ (Nat.ne_of_gt hel)).trans hT
    have new : ObjOk X.prog X.w (upd H s.heap.objs.size (.tup [.int (i : Nat), .str ⟨#[c]⟩])) h'' s.heap.objs.size (.tup [.int (i : Nat), .str ⟨#[c]⟩]) :=
      ⟨by show 2 ≤ sizeLine; decide, [.int i tk, .str ⟨#[c]⟩ u], .cons ⟨_, rfl⟩ (.cons ⟨_, rfl⟩ .nil), ⟨_, hT2, rfl, _, rfl⟩⟩
    have I1 : Inv X pins σ (upd H s.heap.objs.size (.tup [.int (i : Nat), .str ⟨#[c]⟩])) { s with heap := h'', toks := tk + 1 } :=
      I.turnedNew (ch := [e, it]) (fun b ob hb q => (sb.2 b (fun z => hb (by simp [z]))).trans (hk b ob (fun z => hb (by simp [z])) (fun z => hb (by simp [z])) q)) hf (Nat.le_refl _) new
    refine ⟨.ref s.heap.objs.size, _, I1, rfl, ⟨_, c, rfl, I.hok.fresh (Nat.le_refl _), rfl, hcx⟩, ⟨⟨.str ⟨#[c]⟩ u, ?_⟩, (let ⟨o, ho, r⟩ := hst'; ⟨o, (sb.2 it (Ne.symm hne)).trans ho, r⟩), hne⟩, fun b hb => ?_⟩
    · have e1 : ((i + 1 : Nat) : Int) = (i : Int) + 1 := by omega
      rw [e1]; exact he'
    · have hb' : b < s.heap.objs.size := by
        have e' : b = e ∨ b = it := by simpa using hb
        rcases e' with z | z
        · rw [z]; exact hel
        · rw [z]; exact hil
      rw [upd_ne (Nat.ne_of_lt hb')]
      exact (hf b hb).1
  done := by
    intro X hP hw hK hc i pins s σ H E I hf st hg
    subst hP hw hK
    obtain ⟨⟨old, he⟩, hit, hne⟩ := st
    have hg' : x.cps.size ≤ i := hg
    obtain ⟨f0, f1, f2, f3, f4, f5⟩ := hf it (by simp)
    have hT : s.TypeIs (.ref e) "enumerate" := ⟨_, he, rfl⟩
    have hx : x.cps[i]? = none := Array.getElem?_eq_none hg'
    unfold pyNext
    refine wpAny_bind (wpAny_attempt (wpAny_callSpecial?_slot (name := Str.ofString "__next__") hT F.slot_enumerate_next
      (wpAny_call_entry F.slot_enumerate_next hT F.entry_enumerate_next ?_ (F.args_enumerate_next_1 _))))
    show wpAny _ _ (field (.ref e) 2 >>= _) _ _ _
    refine wpAny_bind (wpAny_field he rfl (x := .ref it) rfl ?_)
    have fin : ∀ h' y, Heap.ExtBut it s.heap h' → (∃ o, h'.get? y = some o ∧ o.cls = .type "StopIteration") → Inv X pins σ H { s with heap := h' } := fun h' y eb _ => I.turned (t' := s.toks) (fun b o hb q => eb b o hb q) f0 f1 f3 f4 f5
    cases ha : x.cps.all (· < 128)
    · simp only [strIterType, ha, Bool.false_eq_true, if_false] at hit
      refine wpAny_bind (wpAny_nextOf_wide_end (I.ok.hd hc) hit hx fun h' x eb hx' => ?_)
      obtain ⟨o, ho, hc⟩ := id hx'
      refine wpAny_bind (wpAny_isInstance (T := "StopIteration") (b := true) ⟨o, ho, hc⟩ isSubtype_stop ?_)
      exact wpAny_pure ⟨rfl, fin h' x eb hx'⟩
    · simp only [strIterType, ha, if_true] at hit
      refine wpAny_bind (wpAny_nextOf_ascii_end (I.ok.hd hc) hit hx fun h' x eb hx' => ?_)
      obtain ⟨o, ho, hc⟩ := id hx'
      refine wpAny_bind (wpAny_isInstance (T := "StopIteration") (b := true) ⟨o, ho, hc⟩ isSubtype_stop ?_)
      exact wpAny_pure ⟨rfl, fin h' x eb hx'⟩
  self := fun A i s Q E st h => let ⟨⟨_, he⟩, _⟩ := st; wpAny_pyIter_enum he h
/-- enumerate(e), e a list, a tuple, a text -/
def iEnumX (K : PySem.W.Frag) (ta : TA) : TI := fun σ H R => ta σ H fun vs H1 => (∃ a xs, vs = [.ref a] ∧ SqL K H1 a xs ∧ R (Ite K a) H1) ∨ (∃ a xs, vs = [.ref a] ∧ SqT K H1 a xs ∧ R (IteT K a) H1) ∨ ∃ x, vs = [.str x] ∧ R (IteS x) H1
theorem pi_enumX {X : Cx} {e : Expr} {ta : TA} {p pos tpos : Pos} {elts : List Expr} {kk : Nat} (hg : Gl X "enumerate") (hm : X.mg "enumerate" = none) (ha : PA X [e] ta) (hs : starEach [e] X.env = [(false, eval e X.env)] := by rfl) :
    PI X (.Tuple elts kk tpos) (.Call (.Name "enumerate" p) [e] [] pos) (iEnumX X.K ta) := by
  refine ⟨fun pins s σ H R I h => ?_⟩
  refine Call_ (ld_blt I hg hm boot_enumerate (PyProof.Rows.callWith_type1 (thn (ha.run pos pins s σ H _ I h) fun us s1 ⟨vs, H1, I1, r1, q1⟩ => ?_) hs rfl))
  have fp : ∀ b ∈ [s1.heap.objs.size + 1, s1.heap.objs.size], FpOk X pins H1 b := fun b hb => by
    have e' : b = s1.heap.objs.size + 1 ∨ b = s1.heap.objs.size := by simpa using hb
    have hle : s1.heap.objs.size ≤ b := by
      rcases e' with z | z
      · rw [z]; exact Nat.le_add_right _ _
      · rw [z]; exact Nat.le_refl _
    exact I1.fpOk hle (I1.hok.fresh hle)
  rcases q1 with ⟨a, xs, ex, hq, q⟩ | ⟨a, xs, ex, hq, q⟩ | ⟨x, ex, q⟩
  · subst ex
    cases r1 with
    | cons r rr =>
      cases rr
      cases r
      obtain ⟨its, rv, p', hz⟩ := I1.list hq
      refine call_enumerate_list p'.isList fun h' he hit hsz hk => wpAny_pyIter_enum he ?_
      have I2 : Inv X pins σ H1 { s1 with heap := h' } := I1.kept (t' := s1.toks) hk
      exact ⟨s1.heap.objs.size + 1, [s1.heap.objs.size + 1, s1.heap.objs.size], _, _, H1, rfl, I2, turn_enum a (s1.heap.objs.size + 1) s1.heap.objs.size, ⟨⟨.none, he⟩, hit, Nat.succ_ne_self _⟩, fp, q⟩
  · subst ex
    cases r1 with
    | cons r rr =>
      cases rr
      cases r
      obtain ⟨its, rv, p', hz⟩ := I1.tuple hq
      refine call_enum1 (begins_tuple a its.toArray) (show s1.heap.IsTuple a its.toArray from p') fun h' he hit hsz hk => wpAny_pyIter_enum he ?_
      have I2 : Inv X pins σ H1 { s1 with heap := h' } := I1.kept (t' := s1.toks) hk
      exact ⟨s1.heap.objs.size + 1, [s1.heap.objs.size + 1, s1.heap.objs.size], _, _, H1, rfl, I2, turn_enumT a (s1.heap.objs.size + 1) s1.heap.objs.size, ⟨⟨.none, he⟩, ⟨_, hit, rfl, rfl⟩, Nat.succ_ne_self _⟩, fp, q⟩
  · subst ex
    cases r1 with
    | cons r rr =>
      cases rr
      obtain ⟨t, rfl⟩ := r
      refine call_enumerate_str fun h' he hit hsz hk => wpAny_pyIter_enum he ?_
      have I2 : Inv X pins σ H1 { s1 with heap := h' } := I1.kept (t' := s1.toks) hk
      exact ⟨s1.heap.objs.size + 1, [s1.heap.objs.size + 1, s1.heap.objs.size], _, _, H1, rfl, I2, turn_enumS x t (s1.heap.objs.size + 1) s1.heap.objs.size, ⟨⟨.none, he⟩, hit, Nat.succ_ne_self _⟩, fp, q⟩

/-! ### as trees -/
/-- the items of what is walked -/
def itemsD : D → Option (List D)
  | .lst ds => some ds
  | .tup ds => some ds
  | .str x => some (x.map fun c => .str [c])
  | _ => none
def enumD (ds : List D) : List D := ds.mapIdx fun i d => .tup [.int (i : Nat), d]
def enumF (d : D) : Option (List D) := (itemsD d).map enumD
theorem enumD_get {ds : List D} {i : Nat} {d : D} (h : (enumD ds)[i]? = some d) : ∃ x, ds[i]? = some x ∧ d = .tup [.int (i : Nat), x] := by
  unfold enumD at h
  rw [List.getElem?_mapIdx] at h
  cases q : ds[i]? with
  | none =>
    rw [q] at h
    cases h
  | some x =>
    rw [q] at h
    exact ⟨x, rfl, (Option.some.inj h).symm⟩
theorem enumD_len {ds : List D} : (enumD ds).length = ds.length := by
  unfold enumD
  rw [List.length_mapIdx]
/-- the pair is new -/
theorem rep_pair {K : Frag} {S : List Addr} {H : Hp} {T : Addr} {d e : D} {v u : V} (hS : ∀ a ∈ S, H a ≠ none) (hT : H T = none) (h1 : Rep K (mask H S) d v) (h2 : Rep K (mask H S) e u) :
    Ex H (upd H T (.tup [v, u])) ∧ Rep K (mask (upd H T (.tup [v, u])) S) (.tup [d, e]) (.ref T) :=
  ⟨Ex.new hT, T, _, rfl, .inl (.inl (mask_upd hS hT)), Reps.cons (h1.ex (mask_new hT)) (Reps.cons (h2.ex (mask_new hT)) Reps.nil)⟩
theorem itd_enumL {K : Frag} {F : Hp} {a : Addr} {vs : List V} {ds : List D} (h : SqL K F a vs) (r : Reps K F ds vs) : ItD K F (enumD ds) (Ite K a) := fun i S H hS ex => by
  have h' : SqL K H a vs := ex_l mask_ex (ex_l ex h)
  refine ⟨fun d q => ?_, fun hl => ⟨vs, h', by rw [r.length]; rw [enumD_len] at hl; exact hl⟩⟩
  obtain ⟨x, q0, e⟩ := enumD_get q
  subst e
  obtain ⟨v, q1, q2⟩ := r.get q0
  refine ⟨⟨vs, v, h', q1⟩, fun y H' w => ?_⟩
  obtain ⟨T, x', e1, e2, e3, w⟩ := w
  have e4 : v = x' := Option.some.inj (q1.symm.trans (w vs h'))
  subst e1
  subst e3
  subst e4
  exact rep_pair hS e2 (d := .int (i : Nat)) rfl (q2.ex ex)
theorem itd_enumT {K : Frag} {F : Hp} {a : Addr} {vs : List V} {ds : List D} (h : SqT K F a vs) (r : Reps K F ds vs) : ItD K F (enumD ds) (IteT K a) := fun i S H hS ex => by
  have h' : SqT K H a vs := ex_t mask_ex (ex_t ex h)
  refine ⟨fun d q => ?_, fun hl => ⟨vs, h', by rw [r.length]; rw [enumD_len] at hl; exact hl⟩⟩
  obtain ⟨x, q0, e⟩ := enumD_get q
  subst e
  obtain ⟨v, q1, q2⟩ := r.get q0
  refine ⟨⟨vs, v, h', q1⟩, fun y H' w => ?_⟩
  obtain ⟨T, x', e1, e2, e3, w⟩ := w
  have e4 : v = x' := Option.some.inj (q1.symm.trans (w vs h'))
  subst e1
  subst e3
  subst e4
  exact rep_pair hS e2 (d := .int (i : Nat)) rfl (q2.ex ex)
theorem strs_get {x : List Nat} {i : Nat} {d : D} (h : (x.map fun c => D.str [c])[i]? = some d) : ∃ c, x[i]? = some c ∧ d = .str [c] := by
  rw [List.getElem?_map] at h
  cases q : x[i]? with
  | none =>
    rw [q] at h
    cases h
  | some c =>
    rw [q] at h
    exact ⟨c, rfl, (Option.some.inj h).symm⟩
theorem itd_enumS {K : Frag} {F : Hp} {x : List Nat} : ItD K F (enumD (x.map fun c => .str [c])) (IteS ⟨x.toArray⟩) := fun i S H hS ex => by
  refine ⟨fun d q => ?_, fun hl => by
    rw [enumD_len, List.length_map] at hl
    show x.toArray.size ≤ i
    simpa using hl⟩
  obtain ⟨y, q0, e⟩ := enumD_get q
  subst e
  obtain ⟨c, q1, e⟩ := strs_get q0
  subst e
  refine ⟨by
    show i < x.toArray.size
    simpa using (List.getElem?_eq_some_iff.mp q1).1, fun y H' w => ?_⟩
  obtain ⟨T, c', e1, e2, e3, w⟩ := w
  have e4 : c = c' := by
    have : x.toArray[i]? = some c' := w
    rw [List.getElem?_toArray] at this
    exact Option.some.inj (q1.symm.trans this)
  subst e1
  subst e3
  subst e4
  exact rep_pair hS e2 (d := .int (i : Nat)) (e := .str [c]) rfl rfl
theorem itd_str {K : Frag} {F : Hp} {x : List Nat} : ItD K F (x.map fun c => .str [c]) (Its ⟨x.toArray⟩) := fun i S H hS ex => by
  refine ⟨fun d q => ?_, fun hl => by
    rw [List.length_map] at hl
    show x.toArray.size ≤ i
    simpa using hl⟩
  obtain ⟨c, q1, e⟩ := strs_get q
  subst e
  refine ⟨by
    show i < x.toArray.size
    simpa using (List.getElem?_eq_some_iff.mp q1).1, fun y H' w => ?_⟩
  obtain ⟨e1, c', w1, w2⟩ := w
  have e4 : c = c' := by
    have : x.toArray[i]? = some c' := w1
    rw [List.getElem?_toArray] at this
    exact Option.some.inj (q1.symm.trans this)
  subst e1
  subst e4
  exact ⟨Ex.refl _, w2⟩
section
variable {X : Cx} {W : WX} {tg e : Expr} {m : EV D} {ms : EV (List D)} {pos p : Pos}
def asS : D → Option (List D)
  | .str x => some (x.map fun c => .str [c])
  | _ => none
/-- for x in a text -/
theorem ji_str (h : JF X W e m) : JI X W tg e (mIt asS m) := pi_imp (pi_str h) fun σ H Q h => by
  obtain ⟨S0, S, μ, r, h⟩ := h
  refine ⟨S0, S, μ, r, Post.bnd (Z' := ZF X.K S0 σ) h fun S1 H1 μ1 d v g1 z1 h1 => ?_⟩
  cases d with
  | str x =>
    have e1 : v = .str ⟨x.toArray⟩ := z1.2
    exact ⟨_, e1, h1 S1 H1 _ Gr.refl ⟨z1.1, itd_str⟩⟩
  | _ => exact h1.elim
/-- for x in a list, a tuple, a text -/
def iAny (K : Frag) (tl : TE) : TI := fun σ H R => tl σ H fun x H1 => (∃ a, x = .ref a ∧ (((∃ xs, SqL K H1 a xs) ∧ R (Itl K a) H1) ∨ ((∃ xs, SqT K H1 a xs) ∧ R (Itt K a) H1))) ∨ ∃ z, x = .str z ∧ R (Its z) H1
theorem pi_any {te : TE} (he : PE X e te) : PI X tg e (iAny X.K te) := by
  refine ⟨fun pins s σ H R I h => ?_⟩
  refine thn (he.run pins s σ H _ I h) fun v s1 ⟨y, H1, I1, r1, q1⟩ => ?_
  rcases q1 with q1 | ⟨z, ez, q⟩
  · obtain ⟨a, e, q1⟩ := q1
    subst e
    cases r1
    have fp : ∀ b ∈ [s1.heap.objs.size], FpOk X pins H1 b := fun b hb => by
      have e : b = s1.heap.objs.size := by simpa using hb
      subst e
      exact I1.fpOk (Nat.le_refl _) (I1.hok.fresh (Nat.le_refl _))
    rcases q1 with ⟨⟨xs, hq⟩, q⟩ | ⟨⟨xs, hq⟩, q⟩
    · obtain ⟨its, rv, p, hz⟩ := I1.list hq
      refine wpAny_pyIter_list p.isList ?_
      exact ⟨s1.heap.objs.size, [s1.heap.objs.size], _, _, H1, rfl, I1.kept (t' := s1.toks) fun b o e => Heap.get?_push_of_some _ e, turn_list a _, ⟨_, Heap.get?_push_size _ rfl, rfl, rfl⟩, fp, q⟩
    · obtain ⟨its, rv, p, hz⟩ := I1.tuple hq
      refine wpAny_pyIter_tuple (show s1.heap.IsTuple a its.toArray from p) ?_
      exact ⟨s1.heap.objs.size, [s1.heap.objs.size], _, _, H1, rfl, I1.kept (t' := s1.toks) fun b o e => Heap.get?_push_of_some _ e, turn_tuple a _, ⟨_, Heap.get?_push_size _ rfl, rfl, rfl⟩, fp, q⟩
  · subst ez
    obtain ⟨t, rfl⟩ := r1
    cases ha : z.cps.all (· < 128)
    · exact wpAny_pyIter_wide ha (pi_one (tk := s1.toks) I1 _ (turn_str _ z t "str_iterator" (.inr rfl)) ⟨_, Heap.get?_push_size _ rfl, rfl, rfl⟩ q)
    · exact wpAny_pyIter_ascii ha (pi_one (tk := s1.toks) I1 _ (turn_str _ z t "str_ascii_iterator" (.inl rfl)) ⟨_, Heap.get?_push_size _ rfl, rfl, rfl⟩ q)
theorem ji_any (h : JF X W e m) : JI X W tg e (mIt itemsD m) := pi_imp (pi_any h) fun σ H Q h => by
  obtain ⟨S0, S, μ, r, h⟩ := h
  refine ⟨S0, S, μ, r, Post.bnd (Z' := ZF X.K S0 σ) h fun S1 H1 μ1 d v g1 z1 h1 => ?_⟩
  cases d with
  | lst ds =>
    obtain ⟨a, vs, e1, q1, q2⟩ := z1.2
    exact .inl ⟨a, e1, .inl ⟨⟨vs, ex_l mask_ex q1⟩, h1 S1 H1 _ Gr.refl ⟨z1.1, itd_list q1 q2⟩⟩⟩
  | tup ds =>
    obtain ⟨a, vs, e1, q1, q2⟩ := z1.2
    exact .inl ⟨a, e1, .inr ⟨⟨vs, ex_t mask_ex q1⟩, h1 S1 H1 _ Gr.refl ⟨z1.1, itd_tup q1 q2⟩⟩⟩
  | str x =>
    have e1 : v = .str ⟨x.toArray⟩ := z1.2
    exact .inr ⟨_, e1, h1 S1 H1 _ Gr.refl ⟨z1.1, itd_str⟩⟩
  | _ => exact h1.elim
def sole (f : D → Option (List D)) : List D → Option (List D)
  | [d] => f d
  | _ => none
def mItA (f : List D → Option (List D)) (m : EV (List D)) : EV (List D) := bnd m fun ds => opt (f ds)
theorem ji_enum {elts : List Expr} {kk : Nat} {tpos : Pos} (hg : Gl X "enumerate") (hm : X.mg "enumerate" = none) (ha : JA X W [e] ms) (hs : starEach [e] X.env = [(false, eval e X.env)] := by rfl) :
    JI X W (.Tuple elts kk tpos) (.Call (.Name "enumerate" p) [e] [] pos) (mItA (sole enumF) ms) := pi_imp (pi_enumX hg hm ha hs) fun σ H Q h => by
  obtain ⟨S0, S, μ, r, h⟩ := h
  refine ⟨S0, S, μ, r, Post.bnd (Z' := ZFs X.K S0 σ) h fun S1 H1 μ1 ds vs g1 z1 h1 => ?_⟩
  match ds, z1, h1 with
  | [d], z1, h1 =>
    obtain ⟨v, e0, z2⟩ := reps1 z1.2
    subst e0
    cases d with
    | lst ds =>
      obtain ⟨a, vs, e1, q1, q2⟩ := z2
      exact .inl ⟨a, vs, by rw [e1], ex_l mask_ex q1, h1 S1 H1 _ Gr.refl ⟨z1.1, itd_enumL q1 q2⟩⟩
    | tup ds =>
      obtain ⟨a, vs, e1, q1, q2⟩ := z2
      exact .inr (.inl ⟨a, vs, by rw [e1], ex_t mask_ex q1, h1 S1 H1 _ Gr.refl ⟨z1.1, itd_enumT q1 q2⟩⟩)
    | str x =>
      have e1 : v = .str ⟨x.toArray⟩ := z2
      exact .inr (.inr ⟨_, by rw [e1], h1 S1 H1 _ Gr.refl ⟨z1.1, itd_enumS⟩⟩)
    | _ => exact h1.elim
  | [], z1, h1 => exact h1.elim
  | _ :: _ :: _, z1, h1 => exact h1.elim
def zipD (xs ys : List D) : List D := (xs.zip ys).map fun p => .tup [p.1, p.2]
def zipF : List D → Option (List D)
  | [.lst xs, .lst ys] => some (zipD xs ys)
  | [.tup xs, .tup ys] => some (zipD xs ys)
  | _ => none
theorem zipD_get {xs ys : List D} {i : Nat} {d : D} (h : (zipD xs ys)[i]? = some d) : ∃ x y, xs[i]? = some x ∧ ys[i]? = some y ∧ d = .tup [x, y] := by
  unfold zipD at h
  rw [List.getElem?_map] at h
  cases q : (xs.zip ys)[i]? with
  | none =>
    rw [q] at h
    cases h
  | some p =>
    rw [q] at h
    have := List.getElem?_zip_eq_some.mp q
    exact ⟨p.1, p.2, this.1, this.2, (Option.some.inj h).symm⟩
theorem zipD_len {xs ys : List D} {i : Nat} (h : (zipD xs ys).length ≤ i) : xs.length ≤ i ∨ ys.length ≤ i := by
  unfold zipD at h
  rw [List.length_map, List.length_zip] at h
  omega
theorem itd_zipL {K : Frag} {F : Hp} {a b : Addr} {vs us : List V} {ds es : List D} (h : SqL K F a vs) (r : Reps K F ds vs) (h2 : SqL K F b us) (r2 : Reps K F es us) : ItD K F (zipD ds es) (Itz K a b) := fun i S H hS ex => by
  have h' : SqL K H a vs := ex_l mask_ex (ex_l ex h)
  have h2' : SqL K H b us := ex_l mask_ex (ex_l ex h2)
  refine ⟨fun d q => ?_, fun hl => ⟨vs, us, h', h2', by rw [r.length, r2.length]; exact zipD_len hl⟩⟩
  obtain ⟨x, y, q0, q0', e⟩ := zipD_get q
  subst e
  obtain ⟨v, q1, q2⟩ := r.get q0
  obtain ⟨u, q3, q4⟩ := r2.get q0'
  refine ⟨⟨vs, us, v, u, h', h2', q1, q3⟩, fun y H' w => ?_⟩
  obtain ⟨T, x', y', e1, e2, e3, w, w2⟩ := w
  have e4 : v = x' := Option.some.inj (q1.symm.trans (w vs h'))
  have e5 : u = y' := Option.some.inj (q3.symm.trans (w2 us h2'))
  subst e1
  subst e3
  subst e4
  subst e5
  exact rep_pair hS e2 (q2.ex ex) (q4.ex ex)
theorem itd_zipT {K : Frag} {F : Hp} {a b : Addr} {vs us : List V} {ds es : List D} (h : SqT K F a vs) (r : Reps K F ds vs) (h2 : SqT K F b us) (r2 : Reps K F es us) : ItD K F (zipD ds es) (RZ.ItzT K a b) := fun i S H hS ex => by
  have h' : SqT K H a vs := ex_t mask_ex (ex_t ex h)
  have h2' : SqT K H b us := ex_t mask_ex (ex_t ex h2)
  refine ⟨fun d q => ?_, fun hl => ⟨vs, us, h', h2', by rw [r.length, r2.length]; exact zipD_len hl⟩⟩
  obtain ⟨x, y, q0, q0', e⟩ := zipD_get q
  subst e
  obtain ⟨v, q1, q2⟩ := r.get q0
  obtain ⟨u, q3, q4⟩ := r2.get q0'
  refine ⟨⟨vs, us, v, u, h', h2', q1, q3⟩, fun y H' w => ?_⟩
  obtain ⟨T, x', y', e1, e2, e3, w, w2⟩ := w
  have e4 : v = x' := Option.some.inj (q1.symm.trans (w vs h'))
  have e5 : u = y' := Option.some.inj (q3.symm.trans (w2 us h2'))
  subst e1
  subst e3
  subst e4
  subst e5
  exact rep_pair hS e2 (q2.ex ex) (q4.ex ex)
theorem ji_zip {e2 : Expr} {elts : List Expr} {kk : Nat} {tpos : Pos} (hg : Gl X "zip") (hm : X.mg "zip" = none) (ha : JA X W [e, e2] ms) (hs : starEach [e, e2] X.env = (false, eval e X.env) :: starEach [e2] X.env := by rfl) (hpl : (backTo pos (starEach [e2] X.env)).any (·.1) = false := by rfl) :
    JI X W (.Tuple elts kk tpos) (.Call (.Name "zip" p) [e, e2] [] pos) (mItA zipF ms) := pi_imp (RZ.pi_zipA hg hm ha hs hpl) fun σ H Q h => by
  obtain ⟨S0, S, μ, r, h⟩ := h
  refine ⟨S0, S, μ, r, Post.bnd (Z' := ZFs X.K S0 σ) h fun S1 H1 μ1 ds vs g1 z1 h1 => ?_⟩
  cases q : zipF ds with
  | none =>
    rw [q] at h1
    exact h1.elim
  | some zs =>
    rw [q] at h1
    unfold zipF at q
    split at q
    · cases q
      obtain ⟨v, u, e0, p1, p2⟩ := reps2 z1.2
      obtain ⟨a, vs, e1, q1, q2⟩ := p1
      obtain ⟨b, us, e2, q3, q4⟩ := p2
      subst e1
      subst e2
      exact ⟨a, b, vs, us, e0, .inl ⟨ex_l mask_ex q1, ex_l mask_ex q3, h1 S1 H1 _ Gr.refl ⟨z1.1, itd_zipL q1 q2 q3 q4⟩⟩⟩
    · cases q
      obtain ⟨v, u, e0, p1, p2⟩ := reps2 z1.2
      obtain ⟨a, vs, e1, q1, q2⟩ := p1
      obtain ⟨b, us, e2, q3, q4⟩ := p2
      subst e1
      subst e2
      exact ⟨a, b, vs, us, e0, .inr ⟨ex_t mask_ex q1, ex_t mask_ex q3, h1 S1 H1 _ Gr.refl ⟨z1.1, itd_zipT q1 q2 q3 q4⟩⟩⟩
    · cases q
end
end Mn
end
section
/-! Mn: operations on texts, tuples, lists; slices; equality in depth. -/
namespace Mn
open PySem PySem.Spec PyProof.Rows L2
section
variable {K : Frag}
/-! a + b -/
def rAddS0 : R2 := fun x y H Q => ∃ i j, x = .str i ∧ y = .str j ∧ i.length + j.length ≤ sizeLine ∧ Q (.str (i ++ j)) H
def gAddS : D → D → Option D
  | .str x, .str y => bif decide (x.length + y.length ≤ 16777216) then some (.str (x ++ y)) else none
  | _, _ => none
theorem str_app {x y : List Nat} : (⟨x.toArray⟩ : Str) ++ (⟨y.toArray⟩ : Str) = ⟨(x ++ y).toArray⟩ := by
  show Str.mk (x.toArray ++ y.toArray) = _
  simp
theorem str_len {x : List Nat} : (⟨x.toArray⟩ : Str).length = x.length := by
  show x.toArray.size = x.length
  simp
theorem o_addS : Op2 K rAddS0 gAddS := by
  intro S H d e c x y Q hS hx hy hg k
  unfold gAddS at hg
  split at hg
  · rename_i a b
    cases hb : decide (a.length + b.length ≤ 16777216) with
    | false => rw [hb] at hg; cases hg
    | true =>
      rw [hb] at hg
      cases hg
      refine ⟨_, _, hx, hy, ?_, ?_⟩
      · rw [str_len, str_len, sizeLine_eq]
        exact of_decide_eq_true hb
      · rw [str_app]
        exact k _ H (Ex.refl _) rfl
  · cases hg
def gAddT : D → D → Option D
  | .tup x, .tup y => bif decide (x.length + y.length ≤ 16777216) then some (.tup (x ++ y)) else none
  | _, _ => none
theorem o_addT : Op2 K (rCatA K) gAddT := by
  intro S H d e c x y Q hS hx hy hg k
  unfold gAddT at hg
  split at hg
  · rename_i ds es
    cases hb : decide (ds.length + es.length ≤ 16777216) with
    | false => rw [hb] at hg; cases hg
    | true =>
      rw [hb] at hg
      cases hg
      obtain ⟨a, vs, e1, q1, q2⟩ := hx
      obtain ⟨b, us, e2, q3, q4⟩ := hy
      subst e1
      subst e2
      refine ⟨a, b, vs, us, rfl, rfl, ex_t mask_ex q1, ex_t mask_ex q3, by rw [q2.length, q4.length, sizeLine_eq]; exact of_decide_eq_true hb, fun z => ?_, fun _ z => ?_, fun _ _ p hp => ?_⟩
      · subst z
        have z2 : ds = [] := by
          have := q2.length
          cases ds with
          | nil => rfl
          | cons _ _ => simp at this
        subst z2
        exact k _ H (Ex.refl _) ⟨b, us, rfl, q3, q4⟩
      · subst z
        have z2 : es = [] := by
          have := q4.length
          cases es with
          | nil => rfl
          | cons _ _ => simp at this
        subst z2
        refine k _ H (Ex.refl _) ⟨a, vs, rfl, q1, ?_⟩
        rw [List.append_nil]
        exact q2
      · exact k _ _ (Ex.new hp) ⟨p, _, rfl, .inl (.inl (mask_upd hS hp)), (q2.append q4).ex (mask_new hp)⟩
  · cases hg
def rCatL (K : Frag) : R2 := fun x y H Q => ∃ a b xs ys, x = .ref a ∧ y = .ref b ∧ SqL K H a xs ∧ SqL K H b ys ∧ xs.length + ys.length ≤ sizeLine ∧ ∀ p, H p = none → Q (.ref p) (upd H p (.lst (xs ++ ys)))
theorem op_catL {X : Cx} : OpR X (binaryOp .Add) (rCatL X.K) := by
  intro pins s σ H x y v u Q I rx ry h
  obtain ⟨a, b, xs, ys, rfl, rfl, ha, hb, hz, q⟩ := h
  cases rx
  cases ry
  obtain ⟨its, r1, p1, _⟩ := I.list ha
  obtain ⟨its2, r2, p2, _⟩ := I.list hb
  obtain ⟨⟨cls, dd, data, sl⟩, n, ho, hc, hdd, hd⟩ := id p1
  obtain ⟨⟨cls2, dd2, data2, sl2⟩, n2, ho2, hc2, hdd2, hd2⟩ := id p2
  simp only at hc hd hc2 hd2
  subst hc hd hc2 hd2
  have e : its.toArray ++ its2.toArray = (its ++ its2).toArray := by simp
  have l1 := r1.length
  have l2 := r2.length
  refine concat_meets ⟨_, ho, rfl⟩ ⟨_, ho2, rfl⟩ noFill_list_add seq_list_add PySem.F.slot_list_add PySem.F.entry_list_add (PySem.F.args_list_add_2 _ _) (list_addW a b its.toArray its2.toArray n n2 dd dd2 sl sl2 (by rw [List.size_toArray, List.size_toArray]; omega)) ⟨ho, ho2, ?_⟩
  rw [e]
  exact ⟨.ref _, _, I.lnew (t' := s.toks) (r1.append r2) (by rw [List.length_append]; omega), rfl, q _ I.fresh⟩
def gAddL : D → D → Option D
  | .lst x, .lst y => bif decide (x.length + y.length ≤ 16777216) then some (.lst (x ++ y)) else none
  | _, _ => none
theorem o_addL : Op2 K (rCatL K) gAddL := by
  intro S H d e c x y Q hS hx hy hg k
  unfold gAddL at hg
  split at hg
  · rename_i ds es
    cases hb : decide (ds.length + es.length ≤ 16777216) with
    | false => rw [hb] at hg; cases hg
    | true =>
      rw [hb] at hg
      cases hg
      obtain ⟨a, vs, e1, q1, q2⟩ := hx
      obtain ⟨b, us, e2, q3, q4⟩ := hy
      subst e1
      subst e2
      exact ⟨a, b, vs, us, rfl, rfl, ex_l mask_ex q1, ex_l mask_ex q3, by rw [q2.length, q4.length, sizeLine_eq]; exact of_decide_eq_true hb, fun p hp => k _ _ (Ex.new hp) ⟨p, _, rfl, .inl (.inl (mask_upd hS hp)), (q2.append q4).ex (mask_new hp)⟩⟩
  · cases hg
def gAddX : D → D → Option D
  | .int x, .int y => some (.int (x + y))
  | .str x, .str y => bif decide (x.length + y.length ≤ 16777216) then some (.str (x ++ y)) else none
  | .tup x, .tup y => bif decide (x.length + y.length ≤ 16777216) then some (.tup (x ++ y)) else none
  | .lst x, .lst y => bif decide (x.length + y.length ≤ 16777216) then some (.lst (x ++ y)) else none
  | _, _ => none
def rAddX (K : Frag) : R2 := fun x y H Q => rI0 (fun i j => .int (i + j)) x y H Q ∨ rAddS0 x y H Q ∨ rCatA K x y H Q ∨ rCatL K x y H Q
theorem op_addX {X : Cx} : OpR X (binaryOp .Add) (rAddX X.K) := op_add.or (L2.OpR.or (r := rAddS0) op_add_str (op_catA.or op_catL))
theorem o_addX : Op2 K (rAddX K) gAddX := by
  intro S H d e c x y Q hS hx hy hg k
  unfold gAddX at hg
  split at hg
  · exact .inl (o_add S H _ _ _ x y Q hS hx hy hg k)
  · exact .inr (.inl (o_addS S H _ _ _ x y Q hS hx hy hg k))
  · exact .inr (.inr (.inl (o_addT S H _ _ _ x y Q hS hx hy hg k)))
  · exact .inr (.inr (.inr (o_addL S H _ _ _ x y Q hS hx hy hg k)))
  · cases hg
/-! a * b -/
def rMulS : R2 := fun x y H Q => ∃ z k, x = .str z ∧ y = .int k ∧ -(2 ^ 62) ≤ k ∧ k < 2 ^ 62 ∧ z.length * k.toNat ≤ sizeLine ∧ Q (.str ⟨(List.replicate k.toNat z.cps.toList).flatten.toArray⟩) H
theorem fold_rep (x : Array Nat) : ∀ (n : Nat) (acc : List Nat), (List.replicate n x).foldl (· ++ ·) acc.toArray = (acc ++ (List.replicate n x.toList).flatten).toArray
  | 0, acc => by simp
  | n + 1, acc => by
    rw [List.replicate_succ, List.foldl_cons, List.replicate_succ, List.flatten_cons, ← List.append_assoc, ← fold_rep x n (acc ++ x.toList)]
    congr 1
    apply Array.toList_inj.mp
    simp
theorem op_mulS {X : Cx} : OpR X (binaryOp .Mult) rMulS := by
  intro pins s σ H x y v u Q I rx ry h
  obtain ⟨z, k, rfl, rfl, h1, h2, hz, q⟩ := h
  obtain ⟨t, rfl⟩ := rx
  obtain ⟨t2, rfl⟩ := ry
  have zl : z.cps.toList.length = z.length := by simp [Str.length]
  refine PySem.P.mul_str (by rw [decide_eq_false (by omega), decide_eq_false (by omega)]; rfl) (fun c1 c2 => ?_) (fun c1 c2 => ?_) ?_
  · rw [Int.not_lt] at c1
    have hk : 1 ≤ k := c1
    have hkn : (k.toNat : Int) = k := Int.toNat_of_nonneg (by omega)
    have : (z.length : Int) * k ≤ 2 ^ 63 - 1 := by
      rw [← hkn]
      have h3 : ((z.length * k.toNat : Nat) : Int) ≤ (sizeLine : Int) := Int.ofNat_le.mpr hz
      rw [Int.natCast_mul] at h3
      rw [sizeLine_eq] at h3
      omega
    have h5 := (Int.le_ediv_iff_mul_le (by omega : 0 < k)).mpr this
    omega
  · unfold Builtin.Str.tooLong
    exact decide_eq_false (by omega)
  · by_cases c1 : k < 1
    · rw [if_pos c1]
      have : k.toNat = 0 := by omega
      rw [this] at q
      exact ⟨by decide, .str Str.empty, H, I.tok _, ⟨_, rfl⟩, q⟩
    · rw [if_neg c1]
      by_cases c2 : (k == 1 || z.length == 0) = true
      · rw [if_pos c2]
        have e : (⟨(List.replicate k.toNat z.cps.toList).flatten.toArray⟩ : Str) = z := by
          rcases Bool.or_eq_true_iff.mp c2 with c | c
          · have : k = 1 := eq_of_beq c
            subst this
            simp
          · have c3 : z.length = 0 := eq_of_beq c
            have c4 : z.cps = #[] := Array.eq_empty_of_size_eq_zero c3
            have : (List.replicate k.toNat z.cps.toList).flatten = [] := by rw [c4]; simp
            rw [this]
            cases z
            simp only at c4
            rw [c4]
        rw [e] at q
        exact ⟨.str z, H, I, ⟨_, rfl⟩, q⟩
      · rw [if_neg c2]
        have e := fold_rep z.cps k.toNat []
        rw [List.nil_append] at e
        refine ⟨?_, .str ⟨(List.replicate k.toNat z.cps.toList).flatten.toArray⟩, H, I.tok _, ⟨s.toks, ?_⟩, q⟩
        · show (List.foldl (· ++ ·) #[] (List.replicate k.toNat z.cps)).size ≤ _
          rw [e, List.size_toArray, PyProof.Rows.lm_len_rep_flat, zl, Nat.mul_comm]
          exact hz
        · rw [← e]

theorem inR_le {k : Int} (h : inR k = true) : -(2 ^ 62) ≤ k ∧ k < 2 ^ 62 := inR_ok h
def gMulS : D → D → Option D
  | .str x, .int k => bif inR k && decide (x.length * k.toNat ≤ 16777216) then some (.str (List.replicate k.toNat x).flatten) else none
  | _, _ => none
theorem o_mulS : Op2 K rMulS gMulS := by
  intro S H d e c x y Q hS hx hy hg k
  unfold gMulS at hg
  split at hg
  · rename_i a n
    cases hb : inR n && decide (a.length * n.toNat ≤ 16777216) with
    | false => rw [hb] at hg; cases hg
    | true =>
      rw [hb] at hg
      cases hg
      have h2 := Bool.and_eq_true_iff.mp hb
      have h3 := inR_le h2.1
      refine ⟨_, n, hx, hy, h3.1, h3.2, by rw [str_len, sizeLine_eq]; exact of_decide_eq_true h2.2, k _ H (Ex.refl _) ?_⟩
      rfl
  · cases hg
def gMulT : D → D → Option D
  | .tup x, .int k => bif decide (2 ≤ k) && decide (k ≤ 1000) && decide (1 ≤ x.length) && decide (x.length ≤ 1000) then some (.tup (List.replicate k.toNat x).flatten) else none
  | _, _ => none
theorem Reps.rep {F : Hp} {ds : List D} {vs : List V} (h : Reps K F ds vs) : ∀ k : Nat, Reps K F (List.replicate k ds).flatten (List.replicate k vs).flatten
  | 0 => Reps.nil
  | k + 1 => by
    rw [List.replicate_succ, List.replicate_succ, List.flatten_cons, List.flatten_cons]
    exact h.append (Reps.rep h k)
theorem o_mulT : Op2 K (rRepT K) gMulT := by
  intro S H d e c x y Q hS hx hy hg k
  unfold gMulT at hg
  split at hg
  · rename_i a n
    cases hb : decide (2 ≤ n) && decide (n ≤ 1000) && decide (1 ≤ a.length) && decide (a.length ≤ 1000) with
    | false => rw [hb] at hg; cases hg
    | true =>
      rw [hb] at hg
      cases hg
      simp only [Bool.and_eq_true, decide_eq_true_eq] at hb
      obtain ⟨⟨⟨b1, b2⟩, b3⟩, b4⟩ := hb
      obtain ⟨l, vs, e1, q1, q2⟩ := hx
      subst e1
      have hl := q2.length
      refine ⟨l, n, vs, rfl, hy, ex_t mask_ex q1, fun z => ?_, b1, b2, by omega, fun p hp => k _ _ (Ex.new hp) ⟨p, _, rfl, .inl (.inl (mask_upd hS hp)), (q2.rep _).ex (mask_new hp)⟩⟩
      subst z
      simp at hl
      omega
  · cases hg
def gMulX : D → D → Option D
  | .int x, .int y => bif sm x || sm y then some (.int (x * y)) else none
  | .str x, .int k => bif inR k && decide (x.length * k.toNat ≤ 16777216) then some (.str (List.replicate k.toNat x).flatten) else none
  | .tup x, .int k => bif decide (2 ≤ k) && decide (k ≤ 1000) && decide (1 ≤ x.length) && decide (x.length ≤ 1000) then some (.tup (List.replicate k.toNat x).flatten) else none
  | _, _ => none
def rMulX (K : Frag) : R2 := fun x y H Q => rI CMul (fun i j => .int (i * j)) x y H Q ∨ rMulS x y H Q ∨ rRepT K x y H Q
theorem op_mulX {X : Cx} : OpR X (binaryOp .Mult) (rMulX X.K) := op_mul.or (op_mulS.or op_repT)
theorem o_mulX : Op2 K (rMulX K) gMulX := by
  intro S H d e c x y Q hS hx hy hg k
  unfold gMulX at hg
  split at hg
  · exact .inl (o_mul S H _ _ _ x y Q hS hx hy hg k)
  · exact .inr (.inl (o_mulS S H _ _ _ x y Q hS hx hy hg k))
  · exact .inr (.inr (o_mulT S H _ _ _ x y Q hS hx hy hg k))
  · cases hg
end
end Mn
end
section
/-! Mn: in, equality in depth, items of dicts, slices. -/
namespace Mn
open PySem PySem.Spec PyProof.Rows L2
theorem room64 {k : Nat} {A : Around} (r : Room k A) : A.units + 64 < cLine := by
  have := r.un
  omega
theorem room1 {k : Nat} {A : Around} (r : Room k A) : A.units + 1 < cLine := by
  have := r.un
  omega
section
variable {K : Frag}
/-! equality in depth -/
mutual
def pyD : D → PyData
  | .non => .none
  | .bl b => .bool b
  | .int i => .int i
  | .str x => .str ⟨x.toArray⟩
  | .tup ds => .tuple (pyDs ds)
  | .lst ds => .list (pyDs ds)
  | .dct _ _ => .dict []
def pyDs : List D → List PyData
  | [] => []
  | d :: ds => pyD d :: pyDs ds
end
mutual
/-- it may be compared: n deep -/
def okD : Nat → D → Bool
  | _, .non | _, .bl _ | _, .int _ => true
  | _, .str x => x.all fun c => decide (c < 0x110000)
  | n + 1, .tup ds => okDs n ds
  | n + 1, .lst ds => okDs n ds
  | _, _ => false
def okDs : Nat → List D → Bool
  | _, [] => true
  | n, d :: ds => okD n d && okDs n ds
end
mutual
theorem okD_shape : ∀ (d : D) (n : Nat), okD n d = true → (pyD d).canLay0 = true ∧ (pyD d).depth ≤ n
  | .non, n, _ => ⟨rfl, Nat.zero_le _⟩
  | .bl _, n, _ => ⟨rfl, Nat.zero_le _⟩
  | .int _, n, _ => ⟨rfl, Nat.zero_le _⟩
  | .str x, n, h => ⟨by
    have h' : (x.all fun c => decide (c < 0x110000)) = true := by
      cases n <;> exact h
    show (x.toArray.all fun c => decide (c < 0x110000)) = true
    simpa using h', Nat.zero_le _⟩
  | .tup ds, 0, h => by cases h
  | .tup ds, n + 1, h => by
    obtain ⟨h1, h2⟩ := okDs_shape ds n h
    exact ⟨h1, Nat.succ_le_succ h2⟩
  | .lst ds, 0, h => by cases h
  | .lst ds, n + 1, h => by
    obtain ⟨h1, h2⟩ := okDs_shape ds n h
    exact ⟨h1, Nat.succ_le_succ h2⟩
  | .dct _ _, n, h => by cases n <;> cases h
theorem okDs_shape : ∀ (ds : List D) (n : Nat), okDs n ds = true → PyData.canLayAll0 (pyDs ds) = true ∧ PyData.depthAll (pyDs ds) ≤ n
  | [], n, _ => ⟨rfl, Nat.zero_le _⟩
  | d :: ds, n, h => by
    have h2 := Bool.and_eq_true_iff.mp h
    obtain ⟨a1, a2⟩ := okD_shape d n h2.1
    obtain ⟨b1, b2⟩ := okDs_shape ds n h2.2
    exact ⟨Bool.and_eq_true_iff.mpr ⟨a1, b1⟩, Nat.max_le.mpr ⟨a2, b2⟩⟩
end
mutual
theorem rep_dp : ∀ {F : Hp} {S : List Addr} {H : Hp} (d : D) (v : V) (n : Nat), okD n d = true → Rep K (mask H S) d v → Dp K H v (pyD d)
  | _, _, _, .non, v, n, _, h => by rw [show v = .non from h]; exact .non
  | _, _, _, .bl b, v, n, _, h => by rw [show v = .bl b from h]; exact .bl b
  | _, _, _, .int i, v, n, _, h => by rw [show v = .int i from h]; exact .int i
  | _, _, _, .str x, v, n, _, h => by rw [show v = .str ⟨x.toArray⟩ from h]; exact .str _
  | F, _, _, .tup ds, v, 0, o, h => by cases o
  | F, _, _, .tup ds, v, n + 1, o, h => by
    obtain ⟨a, vs, e1, q1, q2⟩ := h
    subst e1
    exact .tup (ex_t mask_ex q1) (reps_dp (F := F) ds vs n o q2)
  | F, _, _, .lst ds, v, 0, o, h => by cases o
  | F, _, _, .lst ds, v, n + 1, o, h => by
    obtain ⟨a, vs, e1, q1, q2⟩ := h
    subst e1
    exact .lst (ex_l mask_ex q1) (reps_dp (F := F) ds vs n o q2)
  | _, _, _, .dct _ _, v, n, o, h => by cases n <;> cases o
theorem reps_dp : ∀ {F : Hp} {S : List Addr} {H : Hp} (ds : List D) (vs : List V) (n : Nat), okDs n ds = true → Reps K (mask H S) ds vs → DpAll K H vs (pyDs ds)
  | _, _, _, [], vs, n, _, h => by rw [show vs = [] from h]; exact .nil
  | F, _, _, d :: ds, vs, n, o, h => by
    obtain ⟨v, r, e1, q1, q2⟩ := h
    subst e1
    have h2 := Bool.and_eq_true_iff.mp o
    exact .cons (rep_dp (F := F) d v n h2.1 q1) (reps_dp (F := F) ds r n h2.2 q2)
end
def deq (d e : D) : Bool := PyData.eqv (pyD d) (pyD e)
def eqX (d e : D) : Option Bool := match eqS d e with
  | some b => some b
  | none => bif okD 8 d && okD 8 e then some (deq d e) else none
def gEqX (d e : D) : Option D := (eqX d e).map fun b => .bl b
def gNeX (d e : D) : Option D := (eqX d e).map fun b => .bl !b
def rEqX (K : Frag) : R2 := fun x y H Q => rEq x y H Q ∨ rEqD K x y H Q
def rNeX (K : Frag) : R2 := fun x y H Q => rNe x y H Q ∨ rNeD K x y H Q
theorem op_eqX {X : Cx} (hu : X.A.units + 64 < cLine) : OpR X (compareOp .Eq) (rEqX X.K) := op_eq.or (op_eqD hu)
theorem op_neX {X : Cx} (hu : X.A.units + 64 < cLine) : OpR X (compareOp .NotEq) (rNeX X.K) := op_ne.or (op_neD hu)
theorem eqX_split {d e : D} {b : Bool} (h : eqX d e = some b) : eqS d e = some b ∨ (okD 8 d = true ∧ okD 8 e = true ∧ b = deq d e) := by
  unfold eqX at h
  cases q : eqS d e with
  | some b' =>
    rw [q] at h
    exact .inl h
  | none =>
    rw [q] at h
    have h' : (bif okD 8 d && okD 8 e then some (deq d e) else none) = some b := h
    cases q2 : okD 8 d && okD 8 e with
    | false => rw [q2] at h'; cases h'
    | true =>
      rw [q2] at h'
      cases h'
      have := Bool.and_eq_true_iff.mp q2
      exact .inr ⟨this.1, this.2, rfl⟩
theorem shaped_of {d : D} (h : okD 8 d = true) : SeqAt.shaped (pyD d) = true := by
  obtain ⟨h1, h2⟩ := okD_shape d 8 h
  exact Bool.and_eq_true_iff.mpr ⟨h1, decide_eq_true (by omega)⟩
theorem o_eqX : Op2 K (rEqX K) gEqX := by
  intro S H d e c x y Q hS hx hy hg k
  unfold gEqX at hg
  cases q : eqX d e with
  | none => rw [q] at hg; cases hg
  | some b =>
    rw [q] at hg
    cases hg
    rcases eqX_split q with q | ⟨q1, q2, q3⟩
    · exact .inl (o_eq S H d e _ x y Q hS hx hy (by unfold gEq; rw [q]; rfl) k)
    · subst q3
      exact .inr ⟨_, _, rep_dp (F := H) d x 8 q1 hx, rep_dp (F := H) e y 8 q2 hy, shaped_of q1, shaped_of q2, k _ H (Ex.refl _) rfl⟩
theorem o_neX : Op2 K (rNeX K) gNeX := by
  intro S H d e c x y Q hS hx hy hg k
  unfold gNeX at hg
  cases q : eqX d e with
  | none => rw [q] at hg; cases hg
  | some b =>
    rw [q] at hg
    cases hg
    rcases eqX_split q with q | ⟨q1, q2, q3⟩
    · exact .inl (o_ne S H d e _ x y Q hS hx hy (by unfold gNe; rw [q]; rfl) k)
    · subst q3
      exact .inr ⟨_, _, rep_dp (F := H) d x 8 q1 hx, rep_dp (F := H) e y 8 q2 hy, shaped_of q1, shaped_of q2, k _ H (Ex.refl _) rfl⟩
/-! is None -/
def isNon : D → Bool
  | .non => true
  | _ => false
theorem rep_non {F : Hp} {d : D} {v : V} (h : Rep K F d v) : decide (v = .non) = isNon d := by
  cases d with
  | non => exact decide_eq_true h
  | bl b => exact decide_eq_false (by rw [show v = .bl b from h]; exact fun z => nomatch z)
  | int b => exact decide_eq_false (by rw [show v = .int b from h]; exact fun z => nomatch z)
  | str b => exact decide_eq_false (by rw [show v = .str ⟨b.toArray⟩ from h]; exact fun z => nomatch z)
  | tup b =>
    obtain ⟨a, vs, e, _⟩ := h
    exact decide_eq_false (by rw [e]; exact fun z => nomatch z)
  | lst b =>
    obtain ⟨a, vs, e, _⟩ := h
    exact decide_eq_false (by rw [e]; exact fun z => nomatch z)
  | dct b c =>
    obtain ⟨a, vs, e, _⟩ := h
    exact decide_eq_false (by rw [e]; exact fun z => nomatch z)
/-! items of dicts -/
def dget : List D → List D → D → Option D
  | k :: ks, v :: vs, x => if k = x then some v else dget ks vs x
  | _, _, _ => none
theorem keyD_inj {d e : D} {k : Key} (h : keyD d = some k) (h2 : keyD e = some k) : d = e := by
  unfold keyD at h h2
  split at h
  · cases h
    split at h2
    · cases h2; rfl
    · cases h2
    · cases h2
  · cases h
    split at h2
    · cases h2
    · have h3 := Option.some.inj h2
      have h4 := Sum.inr.inj h3
      have h5 := Str.mk.inj h4
      have h6 := congrArg Array.toList h5
      simp at h6
      rw [h6]
    · cases h2
  · cases h
theorem dget_val {F : Hp} : ∀ {ks ds : List D} {kvs : List (Key × V)} {x : D} {k : Key}, ks.map keyD = kvs.map (fun p => some p.1) → Reps K F ds (kvs.map (fun p => p.2)) → keyD x = some k →
    (∀ c, dget ks ds x = some c → ∃ v, valV kvs k = some v ∧ Rep K F c v) ∧ (dget ks ds x = none → valV kvs k = none)
  | [], ds, [], x, k, _, _, _ => by
    refine ⟨fun c h => ?_, fun _ => rfl⟩
    simp [dget] at h
  | [], _, _ :: _, _, _, h, _, _ => by cases h
  | _ :: _, _, [], _, _, h, _, _ => by cases h
  | j :: ks, ds, p :: kvs, x, k, h, r, hk => by
    have h1 : keyD j = some p.1 := (List.cons.inj h).1
    have h2 := (List.cons.inj h).2
    cases ds with
    | nil => cases r
    | cons d ds =>
      obtain ⟨v, r', e1, q1, q2⟩ := r
      obtain ⟨e2, e3⟩ := List.cons.inj e1
      subst e3
      have ih := dget_val h2 q2 hk
      by_cases e : j = x
      · subst e
        have e4 : p.1 = k := Option.some.inj (h1.symm.trans hk)
        refine ⟨fun c hc => ⟨v, ?_, ?_⟩, fun hc => ?_⟩
        · rw [valV_pos e4, show p.2 = v from e2]
        · unfold dget at hc
          rw [if_pos rfl] at hc
          cases hc
          exact q1
        · unfold dget at hc
          rw [if_pos rfl] at hc
          cases hc
      · have e4 : ¬ p.1 = k := fun z => e (keyD_inj h1 (by rw [hk, z]))
        unfold dget
        rw [if_neg e, valV_neg e4]
        exact ih
theorem keyD_rep {F : Hp} {x : D} {k : Key} {v : V} (h : keyD x = some k) (r : Rep K F x v) : v = kV k := by
  unfold keyD at h
  split at h
  · cases h; exact r
  · cases h; exact r
  · cases h
def gIxD : D → D → Option D
  | .dct ks ds, x => match keyD x with
    | some _ => dget ks ds x
    | none => none
  | _, _ => none
def rIxDct : R2 := fun x y H Q => ∃ a v, x = .ref a ∧ DGet H a y (some v) ∧ Q v H
theorem ix_dct {X : Cx} (hu : X.A.units + 1 < cLine) : IxR X rIxDct := by
  intro value slice pins s σ H x y v u Q I rx ry h hs
  obtain ⟨a, z, rfl, g, q⟩ := h
  cases rx
  exact PyProof.Rows.tail_any (dict_typeIs I g) PySem.F.slot_dict_getitem.lookup (d_getItem hu I g ry fun w' s3 I3 rw' => ⟨z, H, I3, rw', q⟩) hs
theorem dget_of {S : List Addr} {H : Hp} {ks ds : List D} {x : D} {a : Addr} {kvs : List (Key × V)} {k : Key} {y : V} (q1 : Rd (mask H S) a (.dK kvs)) (q2 : ks.map keyD = kvs.map (fun p => some p.1)) (q3 : Reps K (mask H S) ds (kvs.map (fun p => p.2))) (hk : keyD x = some k) (hy : Rep K (mask H S) x y) :
    DGet H a y (valV kvs k) := .inl ⟨kvs, k, ex_rd mask_ex q1, keyD_rep hk hy, rfl⟩
theorem o_ixDct : Op2 K rIxDct gIxD := by
  intro S H d e c x y Q hS hx hy hg k
  unfold gIxD at hg
  split at hg
  · rename_i ks ds
    cases hk : keyD e with
    | none => rw [hk] at hg; cases hg
    | some kk =>
      rw [hk] at hg
      obtain ⟨a, kvs, e1, q1, q2, q3⟩ := hx
      obtain ⟨v, h1, h2⟩ := (dget_val q2 q3 hk).1 c hg
      exact ⟨a, v, e1, by rw [← h1]; exact dget_of q1 q2 q3 hk hy, k v H (Ex.refl _) h2⟩
  · cases hg
/-- x[y] of whatever -/
def ixX (d e : D) : Option D := match d with
  | .dct ks ds => match keyD e with
    | some _ => dget ks ds e
    | none => none
  | _ => ixD d e
def rIxX (K : Frag) : R2 := fun x y H Q => rIx K x y H Q ∨ rIxDct x y H Q
theorem ix_X {X : Cx} (hu : X.A.units + 1 < cLine) : IxR X (rIxX X.K) := ix_seq.or (ix_dct hu)
theorem o_ixX : Op2 K (rIxX K) ixX := by
  intro S H d e c x y Q hS hx hy hg k
  cases d with
  | dct ks ds => exact .inr (o_ixDct S H _ _ _ x y Q hS hx hy hg k)
  | _ => exact .inl (o_ix S H _ _ _ x y Q hS hx hy hg k)
/-! in -/
def flatD : D → Bool
  | .non | .bl _ | .int _ | .str _ => true
  | _ => false
def flatEq (d e : D) : Bool := match d, e with
  | .non, .non => true
  | .bl a, .bl b => a == b
  | .bl a, .int j => (if a then 1 else 0) == j
  | .int i, .bl b => i == (if b then 1 else 0)
  | .int i, .int j => i == j
  | .str x, .str y => decide (x = y)
  | _, _ => false
def sgnIn (z : List Nat) : D → Option Bool
  | .str [c] => some (decide (c ∈ z))
  | _ => none
def gInX (x e : D) : Option Bool := match e with
  | .dct ks ds => match keyD x with
    | some _ => some (dget ks ds x).isSome
    | none => none
  | .str z => sgnIn z x
  | .lst ds => bif flatD x && ds.all flatD then some (ds.any fun y => flatEq y x) else none
  | .tup ds => bif flatD x && ds.all flatD then some (ds.any fun y => flatEq y x) else none
  | _ => none
def ng (n : Bool) (b : Bool) : Bool := if n then !b else b
def rInX (K : Frag) (n : Bool) : R2 := fun x y H Q => (∃ a o, y = .ref a ∧ DGet H a x o ∧ Q (.bl (ng n o.isSome)) H) ∨ (∃ (c : Nat) (z : Str), x = .str ⟨#[c]⟩ ∧ y = .str z ∧ Q (.bl (ng n (decide (c ∈ z.cps.toList)))) H) ∨ rIn K n x y H Q
theorem op_inX {X : Cx} (hu : X.A.units + 1 < cLine) : OpR X (compareOp .In) (rInX X.K false) := by
  intro pins s σ H x y v u Q I rx ry h
  rcases h with ⟨a, o, rfl, g, q⟩ | h | h
  · cases ry
    exact d_in hu I g rx fun s3 I3 => ⟨.bl o.isSome, H, I3, rfl, q⟩
  · exact op_in_sign pins s σ H x y v u Q I rx ry h
  · exact op_in_seq pins s σ H x y v u Q I rx ry h
theorem op_notInX {X : Cx} (hu : X.A.units + 1 < cLine) : OpR X (compareOp .NotIn) (rInX X.K true) := by
  intro pins s σ H x y v u Q I rx ry h
  rcases h with ⟨a, o, rfl, g, q⟩ | h | h
  · cases ry
    exact d_notIn hu I g rx fun s3 I3 => ⟨.bl (!o.isSome), H, I3, rfl, q⟩
  · exact op_notIn_sign pins s σ H x y v u Q I rx ry h
  · exact op_notIn_seq pins s σ H x y v u Q I rx ry h
theorem flat_v {F : Hp} {d : D} {v : V} (h : flatD d = true) (r : Rep K F d v) : flatV v = true := by
  cases d <;> first | (cases h; done) | (rw [show v = _ from r]; rfl)
theorem flat_eq {F : Hp} {d e : D} {v u : V} (h : flatD d = true) (h2 : flatD e = true) (r : Rep K F d v) (r2 : Rep K F e u) : eqV v u = flatEq d e := by
  cases d <;> first | (cases h; done) | skip
  all_goals cases e <;> first | (cases h2; done) | skip
  all_goals (rw [show v = _ from r, show u = _ from r2])
  all_goals first | rfl | skip
  show (_ == _) = decide _
  rename_i x y
  by_cases e : x = y
  · subst e
    simp
  · rw [decide_eq_false e]
    refine beq_eq_false_iff_ne.mpr fun z => e ?_
    have h5 := Str.mk.inj z
    have h6 := congrArg Array.toList h5
    simpa using h6
theorem flat_all {F : Hp} : ∀ {ds : List D} {vs : List V}, ds.all flatD = true → Reps K F ds vs → vs.all flatV = true
  | [], vs, _, r => by rw [show vs = [] from r]; rfl
  | d :: ds, vs, h, r => by
    obtain ⟨v, r', e, q1, q2⟩ := r
    subst e
    rw [List.all_cons] at h ⊢
    have := Bool.and_eq_true_iff.mp h
    rw [flat_v this.1 q1, flat_all this.2 q2]
    rfl
theorem flat_any {F : Hp} {x : D} {w : V} (hx : flatD x = true) (rx : Rep K F x w) : ∀ {ds : List D} {vs : List V}, ds.all flatD = true → Reps K F ds vs → inV w vs = ds.any fun y => flatEq y x
  | [], vs, _, r => by rw [show vs = [] from r]; rfl
  | d :: ds, vs, h, r => by
    obtain ⟨v, r', e, q1, q2⟩ := r
    subst e
    rw [List.all_cons] at h
    have := Bool.and_eq_true_iff.mp h
    show (eqV v w || inV w r') = (flatEq d x || _)
    rw [flat_eq this.1 hx q1 rx, flat_any hx rx this.2 q2]
theorem gInX_run {S : List Addr} {H : Hp} {n : Bool} {d e : D} {x y : V} {b : Bool} {Q : VK} (hx : Rep K (mask H S) d x) (hy : Rep K (mask H S) e y) (hg : gInX d e = some b) (k : Q (.bl (ng n b)) H) : rInX K n x y H Q := by
  unfold gInX at hg
  cases e with
  | dct ks ds =>
    dsimp only at hg
    cases hk : keyD d with
    | none => rw [hk] at hg; cases hg
    | some kk =>
      rw [hk] at hg
      cases hg
      obtain ⟨a, kvs, e1, q1, q2, q3⟩ := hy
      refine .inl ⟨a, _, e1, dget_of q1 q2 q3 hk hx, ?_⟩
      have e : (valV kvs kk).isSome = (dget ks ds d).isSome := by
        cases q : dget ks ds d with
        | none => rw [(dget_val q2 q3 hk).2 q]; rfl
        | some c =>
          obtain ⟨v, h1, _⟩ := (dget_val q2 q3 hk).1 c q
          rw [h1]
          rfl
      rw [e]
      exact k
  | str z =>
    have hg' : sgnIn z d = some b := hg
    unfold sgnIn at hg'
    split at hg'
    · rename_i c
      cases hg'
      refine .inr (.inl ⟨c, _, hx, hy, ?_⟩)
      exact k
    · cases hg'
  | lst ds =>
    dsimp only at hg
    cases hb : flatD d && ds.all flatD with
    | false => rw [hb] at hg; cases hg
    | true =>
      rw [hb] at hg
      cases hg
      have := Bool.and_eq_true_iff.mp hb
      obtain ⟨a, vs, e1, q1, q2⟩ := hy
      refine .inr (.inr ⟨a, vs, e1, .inl (ex_l mask_ex q1), flat_v this.1 hx, flat_all this.2 q2, ?_⟩)
      rw [flat_any this.1 hx this.2 q2]
      exact k
  | tup ds =>
    dsimp only at hg
    cases hb : flatD d && ds.all flatD with
    | false => rw [hb] at hg; cases hg
    | true =>
      rw [hb] at hg
      cases hg
      have := Bool.and_eq_true_iff.mp hb
      obtain ⟨a, vs, e1, q1, q2⟩ := hy
      refine .inr (.inr ⟨a, vs, e1, .inr (ex_t mask_ex q1), flat_v this.1 hx, flat_all this.2 q2, ?_⟩)
      rw [flat_any this.1 hx this.2 q2]
      exact k
  | _ => cases hg
def gIn (d e : D) : Option D := (gInX d e).map fun b => .bl b
def gNotIn (d e : D) : Option D := (gInX d e).map fun b => .bl !b
theorem o_in : Op2 K (rInX K false) gIn := by
  intro S H d e c x y Q hS hx hy hg k
  unfold gIn at hg
  cases q : gInX d e with
  | none => rw [q] at hg; cases hg
  | some b =>
    rw [q] at hg
    cases hg
    exact gInX_run hx hy q (k _ H (Ex.refl _) rfl)
theorem o_notIn : Op2 K (rInX K true) gNotIn := by
  intro S H d e c x y Q hS hx hy hg k
  unfold gNotIn at hg
  cases q : gInX d e with
  | none => rw [q] at hg; cases hg
  | some b =>
    rw [q] at hg
    cases hg
    exact gInX_run hx hy q (k _ H (Ex.refl _) rfl)
end
end Mn
end
section
/-! Mn: slices, reversed, built-ins, methods, comprehensions as values. -/
namespace Mn
open PySem PySem.Spec PyProof.Rows L2
section
variable {K : Frag}
def gIsN (d e : D) : Option D := match e with
  | .non => some (.bl (isNon d))
  | _ => none
def gNotN (d e : D) : Option D := match e with
  | .non => some (.bl !isNon d)
  | _ => none
theorem o_isN : Op2 K (fun x y H Q => y = .non ∧ Q (.bl (decide (x = .non))) H) gIsN := by
  intro S H d e c x y Q hS hx hy hg k
  unfold gIsN at hg
  split at hg
  · cases hg
    exact ⟨hy, k _ H (Ex.refl _) (by rw [rep_non hx]; rfl)⟩
  · cases hg
theorem o_notN : Op2 K (fun x y H Q => y = .non ∧ Q (.bl (!decide (x = .non))) H) gNotN := by
  intro S H d e c x y Q hS hx hy hg k
  unfold gNotN at hg
  split at hg
  · cases hg
    exact ⟨hy, k _ H (Ex.refl _) (by rw [rep_non hx]; rfl)⟩
  · cases hg
/-! slices -/
def cut {α : Type} (xs : List α) (lo hi : Option Int) : List α := (xs.drop (HT.sIx xs.length 0 lo)).take (HT.sIx xs.length xs.length hi - HT.sIx xs.length 0 lo)
def gSl (d : D) (lo hi : Option Int) : Option D := match d with
  | .str x => bif decide (x.length ≤ 16777216) then some (.str (cut x lo hi)) else none
  | .tup ds => some (.tup (cut ds lo hi))
  | .lst ds => some (.lst (cut ds lo hi))
  | _ => none
def rSlAll (K : Frag) : V → Option Int → Option Int → Hp → VK → Prop := fun x lo hi H Q => rSlS x lo hi H Q ∨ rSlA K x lo hi H Q ∨ rSlL K x lo hi H Q
theorem sl_all {X : Cx} : SlR X (rSlAll X.K) := sl_str.or (sl_tupA.or sl_list)
theorem Reps.cut {F : Hp} {ds : List D} {vs : List V} (h : Reps K F ds vs) (lo hi : Option Int) : Reps K F (Mn.cut ds lo hi) (cutV vs lo hi) := by
  unfold Mn.cut cutV
  rw [h.length]
  exact (h.drop _).take _
theorem cut_whole {ds : List D} {lo hi : Option Int} (h : HT.sIx ds.length 0 lo = 0 ∧ HT.sIx ds.length ds.length hi = ds.length) : cut ds lo hi = ds := by
  unfold cut
  rw [h.1, h.2, List.drop_zero, Nat.sub_zero, List.take_length]
theorem sl_run {S : List Addr} {H : Hp} {d c : D} {lo hi : Option Int} {x : V} {Q : VK} (hS : ∀ a ∈ S, H a ≠ none) (hx : Rep K (mask H S) d x) (hg : gSl d lo hi = some c) (k : ∀ v H', Ex H H' → Rep K (mask H' S) c v → Q v H') : rSlAll K x lo hi H Q := by
  unfold gSl at hg
  cases d with
  | str z =>
    dsimp only at hg
    cases hb : decide (z.length ≤ 16777216) with
    | false => rw [hb] at hg; cases hg
    | true =>
      rw [hb] at hg
      cases hg
      refine .inl ⟨_, hx, by rw [str_len, sizeLine_eq]; exact of_decide_eq_true hb, k _ H (Ex.refl _) ?_⟩
      show _ = _
      unfold cutS cut
      rw [str_len]
  | tup ds =>
    cases hg
    obtain ⟨a, vs, e1, q1, q2⟩ := hx
    subst e1
    refine .inr (.inl ⟨a, vs, rfl, ex_t mask_ex q1, fun w => ?_, fun w p hp => ?_⟩)
    · rw [q2.length] at w
      rw [cut_whole w] at k
      exact k _ H (Ex.refl _) ⟨a, vs, rfl, q1, q2⟩
    · exact k _ _ (Ex.new hp) ⟨p, _, rfl, .inl (.inl (mask_upd hS hp)), (q2.cut lo hi).ex (mask_new hp)⟩
  | lst ds =>
    cases hg
    obtain ⟨a, vs, e1, q1, q2⟩ := hx
    subst e1
    exact .inr (.inr ⟨a, vs, rfl, ex_l mask_ex q1, fun p hp => k _ _ (Ex.new hp) ⟨p, _, rfl, .inl (.inl (mask_upd hS hp)), (q2.cut lo hi).ex (mask_new hp)⟩⟩)
  | _ => cases hg
end
section
variable {X : Cx} {W : WX} {pin : Bool} {tg e elt iter c : Expr} {es : List Expr} {m ml mh : EV D} {ms : EV (List D)} {pos p p2 : Pos} {lo hi : Option Expr} {mp mq : EV (Option Int)}
def tP (K : Frag) (mg : Str → Option Value) (W : WX) (m : EV (Option Int)) : TO := fun σ H Q => ∃ S0 S μ, R K S0 S H σ μ ∧ Post K mg W S0 S σ H (ZI K S0 σ) (m μ) Q
abbrev JP (X : Cx) (W : WX) (e : Option Expr) (m : EV (Option Int)) : Prop := PO X e (tP X.K X.mg W m)
theorem po_imp {e : Option Expr} {t t' : TO} (h : PO X e t) (i : ∀ σ H Q, t' σ H Q → t σ H Q) : PO X e t' := ⟨fun pins s σ H Q I q => h.run pins s σ H Q I (i σ H Q q)⟩
theorem jp_none : JP X W none (giv none) := po_imp po_none fun σ H Q h => by
  obtain ⟨S0, S, μ, r, h⟩ := h
  exact h S H none Gr.refl ⟨r, rfl⟩
def asI2 : D → Option (Option Int)
  | .int i => some (some i)
  | _ => none
def mPart (m : EV D) : EV (Option Int) := bnd m fun d => opt (asI2 d)
theorem jp_some (h : JF X W e m) : JP X W (some e) (mPart m) := po_imp (po_some h) fun σ H Q h => by
  obtain ⟨S0, S, μ, r, h⟩ := h
  refine ⟨S0, S, μ, r, Post.bnd (Z' := ZF X.K S0 σ) h fun S1 H1 μ1 d v g1 z1 h1 => ?_⟩
  cases d with
  | int i => exact ⟨i, z1.2, h1 S1 H1 _ Gr.refl ⟨z1.1, rfl⟩⟩
  | _ => exact h1.elim
def mSl (m : EV D) (l h : EV (Option Int)) : EV D := bnd m fun d => bnd l fun i => bnd h fun j => opt (gSl d i j)
theorem j_slice (he : JF X W e m) (hl : JP X W lo mp) (hh : JP X W hi mq) : JF X W (.Subscript e (.Slice lo hi none p2) pos) (mSl m mp mq) := pe_imp (pe_slice sl_all he hl hh) fun σ H Q h => by
  obtain ⟨S0, S, μ, r, h⟩ := h
  refine ⟨S0, S, μ, r, Post.bnd (Z' := ZF X.K S0 σ) h fun S1 H1 μ1 d v g1 z1 h1 => ?_⟩
  refine ⟨S0, S1, μ1, z1.1, Post.bnd (Z' := ZI X.K S0 σ) h1 fun S2 H2 μ2 i i' g2 z2 h2 => ?_⟩
  obtain ⟨r2, e2⟩ := z2
  subst e2
  refine ⟨S0, S2, μ2, r2, Post.bnd (Z' := ZI X.K S0 σ) h2 fun S3 H3 μ3 j j' g3 z3 h3 => ?_⟩
  obtain ⟨r3, e3⟩ := z3
  subst e3
  cases q : gSl d i j with
  | none =>
    rw [q] at h3
    exact h3.elim
  | some c =>
    rw [q] at h3
    exact sl_run (S := S0 ++ S3) r3.tr ((z1.2.ex g2.mask).ex g3.mask) q fun w H4 ex p4 => h3 S3 H4 w (Gr.ex ex) ⟨r3.ex ex, p4⟩
/-! x[::-1] -/
theorem sliceApplied_rev {prog : Program} {w : World} {A : Around} {E : Value → Shared → Prop} {s : Shared} {sl : Addr} {vs : Value} {n : Nat} {Q : Int × Int × Nat → Shared → Prop} (hs : s.heap.IsSliceOf sl .none .none vs) (pv : IsPart vs (some (-1)))
    (h : Q ((n : Int) - 1, -1, n) s) : wpAny (model prog w) A (Builtin.Slice.sliceApplied (.ref sl) (pure (n : Int))) Q E s := by
  obtain ⟨os, hos, hcs, hds⟩ := id hs
  unfold Builtin.Slice.sliceApplied Builtin.Slice.sliceFields
  refine wpAny_bind (wpAny_bind (wpAny_field hos hds (x := .none) rfl (wpAny_bind (wpAny_field hos hds (x := .none) rfl (wpAny_bind (wpAny_field hos hds (x := vs) rfl (wpAny_pure ?_)))))))
  refine wpAny_bind (HT.slicePart_ pv ?_)
  show wpAny _ _ (if ((-1 : Int) == 0) = true then _ else _) _ _ s
  rw [if_neg (by decide)]
  refine wpAny_bind (HT.slicePart_ .none (wpAny_bind (HT.slicePart_ .none (wpAny_bind (wpAny_pure ?_)))))
  show wpAny _ _ (match Builtin.Slice.sliceAdjust none none (-1) (n : Int) with | (lo, hi) => pure (lo, (-1 : Int), Builtin.Slice.slicePlaces lo hi (-1))) _ _ s
  have e : Builtin.Slice.slicePlaces ((n : Int) - 1) (-1) (-1) = n := by
    unfold Builtin.Slice.slicePlaces
    have h1 : ¬ ((-1 : Int) > 0) := by decide
    simp only [h1, if_false]
    rw [show (- -1 : Int) = 1 by decide, Int.ediv_one]
    split <;> omega
  show wpAny _ _ (pure ((n : Int) - 1, (-1 : Int), Builtin.Slice.slicePlaces ((n : Int) - 1) (-1) (-1))) _ _ s
  rw [e]
  exact wpAny_pure h
theorem fm_congr {α β : Type} {f g : α → Option β} : ∀ {l : List α}, (∀ x ∈ l, f x = g x) → l.filterMap f = l.filterMap g
  | [], _ => rfl
  | x :: l, h => by
    rw [List.filterMap_cons, List.filterMap_cons, h x List.mem_cons_self, fm_congr fun y hy => h y (List.mem_cons_of_mem _ hy)]
theorem pick_rev {α : Type} (xs : Array α) : ((List.range xs.size).filterMap fun (m : Nat) => xs[((xs.size : Int) - 1 + (m : Int) * (-1)).toNat]?) = xs.toList.reverse := by
  have e : ∀ m ∈ List.range xs.size, (fun (m : Nat) => xs[((xs.size : Int) - 1 + (m : Int) * (-1)).toNat]?) m = (fun m => xs[xs.size - 1 - m]?) m := by
    intro m hm
    have := List.mem_range.mp hm
    have e2 : ((xs.size : Int) - 1 + (m : Int) * (-1)).toNat = xs.size - 1 - m := by omega
    show xs[_]? = xs[_]?
    rw [e2]
  rw [fm_congr e]
  have e3 : (List.range xs.size).filterMap (fun m => xs[xs.size - 1 - m]?) = ((List.range xs.size).map fun k => xs.size - 1 - k).filterMap (xs[·]?) := by
    rw [List.filterMap_map]
    rfl
  rw [e3, PySem.W.krv_range, List.filterMap_reverse, PySem.W.krv_all]
theorem getItem_tuple_rev {prog : Program} {w : World} {A : Around} {E : Value → Shared → Prop} {s : Shared} {t sl : Addr} {items : Array Value} {vs : Value} {Q : Value → Shared → Prop} (ht : IsTup s.heap t items) (hs : s.heap.IsSliceOf sl .none .none vs) (pv : IsPart vs (some (-1)))
    (hsz : items.size ≤ sizeLine)
    (hq : Q (.ref s.heap.objs.size) { s with heap := s.heap.push { cls := .type "tuple", data := .seq items.toList.reverse.toArray } }) : wpAny (model prog w) A (getItem (.ref t) (.ref sl)) Q E s := by
  obtain ⟨os, hos, hcs, hds⟩ := id hs
  have hTs : s.TypeIs (.ref sl) "slice" := ⟨os, hos, hcs⟩
  have htake : sizeOk (.seq items.toList.reverse.toArray) := by
    show items.toList.reverse.toArray.size ≤ sizeLine
    rw [List.size_toArray, List.length_reverse, Array.length_toList]
    exact hsz
  unfold getItem
  try with_reducible refine wpAny_holding ?_
  first | refine wpAny_bind (wpAny_pure ?_) | skip
  refine wpAny_bind (wpAny_sequenceKey ht.typeIs (by decide) ?_)
  refine wpAny_bind (wpAny_callSpecial?_slot (name := Str.ofString "__getitem__") ht.typeIs PyProof.Rows.slot_tuple_getitem
    (wpAny_call_entry PyProof.Rows.slot_tuple_getitem ht.typeIs PyProof.Rows.entry_tuple_getitem ?_ (PyProof.Rows.args_tuple_getitem _ _)))
  show wpAny _ _ (Builtin.Tuple.tupleItemsOf (.ref t) >>= _) _ _ s
  refine wpAny_bind (tupleItemsOf_ ht ?_)
  refine wpAny_bind (wpAny_typeOf hTs ?_)
  rw [if_pos (by decide)]
  refine wpAny_bind (sliceApplied_rev hs pv ?_)
  have hno : ¬ ((((items.size : Int) - 1) == 0 && (-1 : Int) == 1 && items.size == items.size) = true) := by
    intro q
    rw [Bool.and_eq_true, Bool.and_eq_true] at q
    exact absurd q.1.2 (by decide)
  show wpAny _ _ (if (((items.size : Int) - 1) == 0 && (-1 : Int) == 1 && items.size == items.size) = true then _ else _) _ _ s
  rw [if_neg hno, pick_rev]
  first
    | exact wpAny_bind (m := Builtin.Tuple.tupleExact _) (wpAny_newObj_type (wpAny_pure ⟨_, rfl, wpAny_pure hq⟩) htake)
    | exact wpAny_bind (m := Builtin.Tuple.tupleExact _) (wpAny_newObj_type (wpAny_bind (wpAny_pure (wpAny_pure ⟨_, rfl, wpAny_pure hq⟩))) htake)
    | exact wpAny_bind (wpAny_bind (m := Builtin.Tuple.tupleExact _) (wpAny_newObj_type (wpAny_pure (wpAny_pure ⟨_, rfl, wpAny_pure hq⟩)) htake))
    | exact wpAny_bind (wpAny_bind (m := Builtin.Tuple.tupleExact _) (wpAny_newObj_type (wpAny_pure ⟨_, rfl, wpAny_pure hq⟩) htake))

theorem strIdx_rev (n : Nat) : Builtin.Str.strSliceIndices none none (-1) n = (List.range n).map fun k => n - 1 - k := by
  show sliceRange ((n : Int) - 1) (-1) (-1) = _
  exact PySem.W.krv_sliceRange n
def gRev : D → Option D
  | .str x => bif decide (x.length ≤ 16777216) then some (.str x.reverse) else none
  | .tup ds => some (.tup ds.reverse)
  | .lst ds => some (.lst ds.reverse)
  | _ => none
def rRev (K : Frag) (x : V) (H : Hp) (Q : VK) : Prop := (∃ a xs, x = .ref a ∧ SqL K H a xs ∧ ∀ p, H p = none → Q (.ref p) (upd H p (.lst xs.reverse))) ∨ (∃ a xs, x = .ref a ∧ SqT K H a xs ∧ ∀ p, H p = none → Q (.ref p) (upd H p (.tup xs.reverse))) ∨
  ∃ z, x = .str z ∧ z.length ≤ sizeLine ∧ Q (.str ⟨z.cps.toList.reverse.toArray⟩) H
theorem pe_rev {te : TE} {k : Nat} {p1 p2 p3 : Pos} (he : PE X e te) : PE X (.Subscript e (.Slice none none (some (.UnaryOp .USub (.Constant (.int 1) k p1) p2)) p3) pos) (fun σ H Q => te σ H fun x H1 => rRev X.K x H1 Q) := by
  refine ⟨fun pins s σ H Q I h => ?_⟩
  refine Subscript_ (thn (he.run pins s σ H _ I h) fun v s1 ⟨x, H1, I1, r1, q1⟩ => ?_)
  have hst : PO X (some (.UnaryOp .USub (.Constant (.int 1) k p1) p2)) (tPart (tUn (rU fun i => .int (-i)) (tC (.int 1)))) := po_some (pe_un un_neg pe_int)
  refine wpAny_Slice (thn (po_none.run pins s1 σ H1 (fun o H2 => o = none ∧ H2 = H1) I1 ⟨rfl, rfl⟩) fun vl s2 ⟨l, H2, I2, pl, el, e2⟩ => ?_)
  subst el e2
  refine thn (po_none.run pins s2 σ H2 (fun o H3 => o = none ∧ H3 = H2) I2 ⟨rfl, rfl⟩) fun vu s3 ⟨u, H3, I3, pu, eu, e3⟩ => ?_
  subst eu e3
  refine thn (hst.run pins s3 σ H3 (fun o H4 => o = some (-1) ∧ H4 = H3) I3 ⟨1, rfl, -1, rfl, rfl, rfl⟩) fun vs s4 ⟨o, H4, I4, ps, eo, e4⟩ => ?_
  subst eo e4
  have I5 : Inv X pins σ H4 { s4 with heap := s4.heap.push { cls := .type "slice", data := .fields #[vl, vu, vs] } } := I4.kept (t' := s4.toks) fun b ob q => Heap.get?_push_of_some _ q
  rcases q1 with ⟨a, xs, ex, hx, q⟩ | ⟨a, xs, ex, hx, q⟩ | ⟨z, ex, hz, q⟩
  · subst ex
    cases r1
    obtain ⟨its, r, ht, hz⟩ := I5.list hx
    have hlen := r.length
    show wpAny (model X.prog X.w) X.A (subscriptTail e (.Slice none none (some (.UnaryOp .USub (.Constant (.int 1) k p1) p2)) p3) (.ref a) (.ref s4.heap.objs.size)) (EP X pins σ Q) X.xe { s4 with heap := s4.heap.push { cls := .type "slice", data := .fields #[vl, vu, vs] } }
    refine PyProof.Rows.tail_any (ops := [.ref a, .ref s4.heap.objs.size]) ht.isList.typeIs (PySem.slot_list_getitem.lookup) ?_ (by with_unfolding_all rfl)
    refine wpAny_getItem_list_slice ht.isList (Heap.IsSliceOf.new _ vl vu vs) pl pu ps (by decide) ?_ (by rw [List.size_toArray]; omega)
    rw [PySem.W.krv_pick]
    refine ⟨.ref _, _, I5.laid (t' := s4.toks) (o := .lst xs.reverse) (fun b ob q => Heap.get?_push_of_some _ q) (Nat.le_refl _) ?_, rfl, q _ (I5.hok.fresh (Nat.le_refl _))⟩
    exact ⟨by rw [List.length_reverse]; exact hz, _, 0, r.reverse, Heap.get?_push_size _ rfl⟩
  · subst ex
    cases r1
    obtain ⟨its, r, ht, hz⟩ := I5.tuple hx
    have hlen := r.length
    cases pl
    cases pu
    show wpAny (model X.prog X.w) X.A (subscriptTail e (.Slice none none (some (.UnaryOp .USub (.Constant (.int 1) k p1) p2)) p3) (.ref a) (.ref s4.heap.objs.size)) (EP X pins σ Q) X.xe { s4 with heap := s4.heap.push { cls := .type "slice", data := .fields #[.none, .none, vs] } }
    refine PyProof.Rows.tail_any (ops := [.ref a, .ref s4.heap.objs.size]) (IsTup.typeIs ht) (PyProof.Rows.slot_tuple_getitem.lookup) ?_ (by with_unfolding_all rfl)
    refine getItem_tuple_rev ht (Heap.IsSliceOf.new _ .none .none vs) ps (by rw [List.size_toArray]; omega) ?_
    refine ⟨.ref _, _, I5.laid (t' := s4.toks) (o := .tup xs.reverse) (fun b ob q => Heap.get?_push_of_some _ q) (Nat.le_refl _) ?_, rfl, q _ (I5.hok.fresh (Nat.le_refl _))⟩
    exact ⟨by rw [List.length_reverse]; exact hz, _, r.reverse, IsTup.new _ _⟩
  · subst ex
    obtain ⟨t, rfl⟩ := r1
    cases pl
    cases pu
    cases ps with
    | int _ tt =>
    show wpAny (model X.prog X.w) X.A (subscriptTail e (.Slice none none (some (.UnaryOp .USub (.Constant (.int 1) k p1) p2)) p3) (.str z t) (.ref s4.heap.objs.size)) (EP X pins σ Q) X.xe { s4 with heap := s4.heap.push { cls := .type "slice", data := .fields #[.none, .none, .int (-1) tt] } }
    refine PyProof.Rows.tail_any (ops := [.str z t, .ref s4.heap.objs.size]) (typeIs_str _ _ _) (F.slot_str_getitem.lookup) ?_ (by with_unfolding_all rfl)
    refine wpAny_getItem_str_slice (l := none) (u := none) (st := some (-1, tt)) ⟨_, Heap.get?_push_size _ rfl, rfl, rfl⟩ rfl ?_
    unfold sliceMade slicePicked
    show Made.post (if (((-1 : Int) == 1) && _) = true then _ else _) _ _
    rw [if_neg (by intro q; rw [Bool.and_eq_true] at q; exact absurd q.1 (by decide))]
    show Made.post (.str ⟨((Builtin.Str.strSliceIndices none none (-1) z.length).filterMap (z.cps[·]?)).toArray⟩) _ _
    have e : (Builtin.Str.strSliceIndices none none (-1) z.length).filterMap (z.cps[·]?) = z.cps.toList.reverse := by
      rw [strIdx_rev]
      show ((List.range z.cps.size).map fun k => z.cps.size - 1 - k).filterMap (z.cps[·]?) = _
      rw [PySem.W.krv_range, List.filterMap_reverse, PySem.W.krv_all]
    rw [e]
    refine ⟨?_, .str _, H4, I5.tok _, ⟨_, rfl⟩, q⟩
    show z.cps.toList.reverse.toArray.size ≤ sizeLine
    rw [List.size_toArray, List.length_reverse, Array.length_toList]
    exact hz
theorem Reps.reverse {K : Frag} {F : Hp} : ∀ {ds : List D} {vs : List V}, Reps K F ds vs → Reps K F ds.reverse vs.reverse
  | [], vs, h => by
    have e : vs = [] := h
    subst e
    exact Reps.nil
  | d :: ds, vs, h => by
    obtain ⟨v, r, e, q1, q2⟩ := h
    subst e
    rw [List.reverse_cons, List.reverse_cons]
    exact (Reps.reverse q2).append (Reps.cons q1 Reps.nil)
theorem o_rev {K : Frag} : Op1 K (rRev K) gRev := by
  intro S H d c x Q hS hx hg k
  unfold gRev at hg
  cases d with
  | str z =>
    dsimp only at hg
    cases hb : decide (z.length ≤ 16777216) with
    | false => rw [hb] at hg; cases hg
    | true =>
      rw [hb] at hg
      cases hg
      exact .inr (.inr ⟨_, hx, by rw [str_len, sizeLine_eq]; exact of_decide_eq_true hb, k _ H (Ex.refl _) (by rfl)⟩)
  | tup ds =>
    cases hg
    obtain ⟨a, vs, e1, q1, q2⟩ := hx
    exact .inr (.inl ⟨a, vs, e1, ex_t mask_ex q1, fun p hp => k _ _ (Ex.new hp) ⟨p, _, rfl, .inl (.inl (mask_upd hS hp)), (Reps.reverse q2).ex (mask_new hp)⟩⟩)
  | lst ds =>
    cases hg
    obtain ⟨a, vs, e1, q1, q2⟩ := hx
    exact .inl ⟨a, vs, e1, ex_l mask_ex q1, fun p hp => k _ _ (Ex.new hp) ⟨p, _, rfl, .inl (.inl (mask_upd hS hp)), (Reps.reverse q2).ex (mask_new hp)⟩⟩
  | _ => cases hg
theorem j_rev {k : Nat} {p1 p2 p3 : Pos} (he : JF X W e m) : JF X W (.Subscript e (.Slice none none (some (.UnaryOp .USub (.Constant (.int 1) k p1) p2)) p3) pos) (m1 gRev m) := by
  refine pe_imp (pe_rev he) fun σ H Q h => ?_
  obtain ⟨S0, S, μ, rr, h⟩ := h
  refine ⟨S0, S, μ, rr, Post.bnd (Z' := ZF X.K S0 σ) h fun S1 H1 μ1 d v g1 z1 h1 => ?_⟩
  cases q : gRev d with
  | none =>
    rw [q] at h1
    exact h1.elim
  | some c =>
    rw [q] at h1
    exact o_rev (S0 ++ S1) H1 d c v Q z1.1.tr z1.2 q fun w H3 ex p => h1 S1 H3 w (Gr.ex ex) ⟨z1.1.ex ex, p⟩
/-! [..] * n -/
def gRepL (ds : List D) : D → Option D
  | .int k => bif inR k && decide (ds.length * k.toNat ≤ 16777216) then some (.lst (List.replicate k.toNat ds).flatten) else none
  | _ => none
def mRepL (ms : EV (List D)) (m : EV D) : EV D := bnd ms fun ds => bnd (opt (lim ds .non)) fun _ => bnd m fun y => opt (gRepL ds y)
theorem j_repL {q1 q2 : Pos} (ha : JA X W es ms) (hb : JF X W c m) : JF X W (.BinOp (.List es q1) .Mult c q2) (mRepL ms m) := by
  refine pe_imp (pe_op op_rep (pe_lst ha) hb) fun σ H Q h => ?_
  obtain ⟨S0, S, μ, rr, h⟩ := h
  refine ⟨S0, S, μ, rr, Post.bnd (Z' := ZFs X.K S0 σ) h fun S1 H1 μ1 ds vs g1 z1 h1 => ?_⟩
  rw [bnd_def] at h1
  by_cases hl : ds.length ≤ 16777216
  · have e : opt (lim ds D.non) μ1 = some (.ok .non, μ1) := by
      unfold opt lim
      rw [if_pos hl]
      rfl
    rw [e, Rs_ok] at h1
    refine ⟨by rw [z1.2.length, sizeLine_eq]; exact hl, fun p hp => ?_⟩
    have ex := Ex.new (o := .lst vs) hp
    refine ⟨S0, S1, μ1, z1.1.ex ex, Post.bnd (Z' := ZF X.K S0 σ) (h1.grow (Gr.ex ex)) fun S2 H2 μ2 y u g2 z2 h2 => ?_⟩
    cases q : gRepL ds y with
    | none =>
      rw [q] at h2
      exact h2.elim
    | some c =>
      rw [q] at h2
      unfold gRepL at q
      split at q
      · rename_i k
        cases hb2 : inR k && decide (ds.length * k.toNat ≤ 16777216) with
        | false => rw [hb2] at q; cases q
        | true =>
          rw [hb2] at q
          cases q
          have h3 := Bool.and_eq_true_iff.mp hb2
          have h4 := inR_ok h3.1
          have nS : p ∉ S1 := fun z => z1.1.tr p (List.mem_append_right _ z) hp
          have hp2 : H2 p = some (.lst vs) := g2.keep p _ upd_same nS
          refine ⟨p, k, vs, rfl, z2.2, hp2, by omega, by omega, by rw [z1.2.length, sizeLine_eq]; exact of_decide_eq_true h3.2, fun p2 hp2' => ?_⟩
          have r3 : Reps X.K (mask H2 (S0 ++ S2)) ds vs := (z1.2.ex (Gr.ex ex).mask).ex g2.mask
          exact h2 S2 _ _ (Gr.ex (Ex.new hp2')) ⟨z2.1.ex (Ex.new hp2'), p2, _, rfl, .inl (.inl (mask_upd z2.1.tr hp2')), (r3.rep _).ex (mask_new hp2')⟩
      · cases q
  · have e : opt (lim ds D.non) μ1 = none := by
      unfold opt lim
      rw [if_neg hl]
      rfl
    rw [e] at h1
    exact h1.elim
end
/-! ### built-ins -/
section
variable {K : Frag}
def asInts : List D → Option (List Int)
  | [] => some []
  | .int i :: ds => (asInts ds).map fun r => i :: r
  | _ => none
theorem asInts_ok {F : Hp} : ∀ {ds : List D} {ns : List Int} {vs : List V}, asInts ds = some ns → Reps K F ds vs → vs = ns.map V.int ∧ ds = ns.map D.int
  | [], ns, vs, h, r => by
    cases h
    rw [show vs = [] from r]
    exact ⟨rfl, rfl⟩
  | d :: ds, ns, vs, h, r => by
    obtain ⟨v, r', e, q1, q2⟩ := r
    subst e
    cases d with
    | int i =>
      have h' : (asInts ds).map (fun r => i :: r) = some ns := h
      cases q : asInts ds with
      | none => rw [q] at h'; cases h'
      | some ms =>
        rw [q] at h'
        cases h'
        obtain ⟨a, b⟩ := asInts_ok q q2
        rw [a, b, show v = .int i from q1]
        exact ⟨rfl, rfl⟩
    | _ => cases h
theorem asInts_map (ns : List Int) : asInts (ns.map D.int) = some ns := by
  induction ns with
  | nil => rfl
  | cons n ns ih =>
    show (asInts (ns.map D.int)).map (fun r => n :: r) = _
    rw [ih]
    rfl
def asBools : List D → Option (List Bool)
  | [] => some []
  | .bl i :: ds => (asBools ds).map fun r => i :: r
  | _ => none
theorem asBools_ok {F : Hp} : ∀ {ds : List D} {ns : List Bool} {vs : List V}, asBools ds = some ns → Reps K F ds vs → vs = ns.map V.bl
  | [], ns, vs, h, r => by
    cases h
    rw [show vs = [] from r]
    rfl
  | d :: ds, ns, vs, h, r => by
    obtain ⟨v, r', e, q1, q2⟩ := r
    subst e
    cases d with
    | bl i =>
      have h' : (asBools ds).map (fun r => i :: r) = some ns := h
      cases q : asBools ds with
      | none => rw [q] at h'; cases h'
      | some ms =>
        rw [q] at h'
        cases h'
        rw [asBools_ok q q2, show v = .bl i from q1]
        rfl
    | _ => cases h
theorem asBools_map (ns : List Bool) : asBools (ns.map D.bl) = some ns := by
  induction ns with
  | nil => rfl
  | cons n ns ih =>
    show (asBools (ns.map D.bl)).map (fun r => n :: r) = _
    rw [ih]
    rfl
def asStrs : List D → Option (List (List Nat))
  | [] => some []
  | .str i :: ds => (asStrs ds).map fun r => i :: r
  | _ => none
theorem asStrs_ok {F : Hp} : ∀ {ds : List D} {ns : List (List Nat)} {vs : List V}, asStrs ds = some ns → Reps K F ds vs → vs = (ns.map fun x => (⟨x.toArray⟩ : Str)).map V.str
  | [], ns, vs, h, r => by
    cases h
    rw [show vs = [] from r]
    rfl
  | d :: ds, ns, vs, h, r => by
    obtain ⟨v, r', e, q1, q2⟩ := r
    subst e
    cases d with
    | str i =>
      have h' : (asStrs ds).map (fun r => i :: r) = some ns := h
      cases q : asStrs ds with
      | none => rw [q] at h'; cases h'
      | some ms =>
        rw [q] at h'
        cases h'
        rw [asStrs_ok q q2, show v = .str ⟨i.toArray⟩ from q1]
        rfl
    | _ => cases h
theorem asStrs_map (ns : List (List Nat)) : asStrs (ns.map D.str) = some ns := by
  induction ns with
  | nil => rfl
  | cons n ns ih =>
    show (asStrs (ns.map D.str)).map (fun r => n :: r) = _
    rw [ih]
    rfl
def gSum : D → Option D
  | .lst ds => (asInts ds).map fun ns => .int ns.sum
  | _ => none
theorem o_sum : OpN K (rSum K) (n1 gSum) := by
  intro S H ds c xs Q hS hx hg k
  obtain ⟨d, e1, e2⟩ := n1_some hg
  subst e1
  obtain ⟨v, e3, q⟩ := reps1 hx
  subst e3
  cases d with
  | lst ds =>
    have e2' : (asInts ds).map (fun ns => D.int ns.sum) = some c := e2
    cases q2 : asInts ds with
    | none => rw [q2] at e2'; cases e2'
    | some ns =>
      rw [q2] at e2'
      cases e2'
      obtain ⟨a, vs, e4, h1, h2⟩ := q
      obtain ⟨e5, _⟩ := asInts_ok q2 h2
      subst e5
      exact ⟨a, ns, by rw [e4], ex_l mask_ex h1, k _ H (Ex.refl _) rfl⟩
  | _ => cases e2
def gAll : D → Option D
  | .lst ds => (asBools ds).map fun bs => .bl (bs.all id)
  | _ => none
theorem o_all : OpN K (rAll K) (n1 gAll) := by
  intro S H ds c xs Q hS hx hg k
  obtain ⟨d, e1, e2⟩ := n1_some hg
  subst e1
  obtain ⟨v, e3, q⟩ := reps1 hx
  subst e3
  cases d with
  | lst ds =>
    have e2' : (asBools ds).map (fun ns => D.bl (ns.all id)) = some c := e2
    cases q2 : asBools ds with
    | none => rw [q2] at e2'; cases e2'
    | some ns =>
      rw [q2] at e2'
      cases e2'
      obtain ⟨a, vs, e4, h1, h2⟩ := q
      have e5 := asBools_ok q2 h2
      subst e5
      exact ⟨a, ns, by rw [e4], ex_l mask_ex h1, k _ H (Ex.refl _) rfl⟩
  | _ => cases e2
def gMax2 : List D → Option D
  | [.int i, .int j] => some (.int (if j > i then j else i))
  | _ => none
def gMin2 : List D → Option D
  | [.int i, .int j] => some (.int (if j < i then j else i))
  | _ => none
theorem o_max2 : OpN K (fun xs H Q => ∃ i j, xs = [.int i, .int j] ∧ Q (.int (if j > i then j else i)) H) gMax2 := by
  intro S H ds c xs Q hS hx hg k
  unfold gMax2 at hg
  split at hg
  · cases hg
    obtain ⟨v, u, e, q1, q2⟩ := reps2 hx
    exact ⟨_, _, by rw [e, show v = .int _ from q1, show u = .int _ from q2], k _ H (Ex.refl _) rfl⟩
  · cases hg
theorem o_min2 : OpN K (fun xs H Q => ∃ i j, xs = [.int i, .int j] ∧ Q (.int (if j < i then j else i)) H) gMin2 := by
  intro S H ds c xs Q hS hx hg k
  unfold gMin2 at hg
  split at hg
  · cases hg
    obtain ⟨v, u, e, q1, q2⟩ := reps2 hx
    exact ⟨_, _, by rw [e, show v = .int _ from q1, show u = .int _ from q2], k _ H (Ex.refl _) rfl⟩
  · cases hg
def gAbs : D → Option D
  | .int i => some (.int (if i < 0 then -i else i))
  | _ => none
theorem o_abs : OpN K (fun xs H Q => ∃ i, xs = [.int i] ∧ Q (.int (if i < 0 then -i else i)) H) (n1 gAbs) := by
  intro S H ds c xs Q hS hx hg k
  obtain ⟨d, e1, e2⟩ := n1_some hg
  subst e1
  obtain ⟨v, e3, q⟩ := reps1 hx
  cases d with
  | int i =>
    cases e2
    exact ⟨i, by rw [e3, show v = .int i from q], k _ H (Ex.refl _) rfl⟩
  | _ => cases e2
def gTup : D → Option D
  | .lst ds => some (.tup ds)
  | .tup ds => some (.tup ds)
  | _ => none
theorem o_tup : OpN K (fun xs H Q => ∃ p ys, xs = [.ref p] ∧ ((SqL K H p ys ∧ ∀ l, H l = none → Q (.ref l) (upd H l (.tup ys))) ∨ (SqT K H p ys ∧ Q (.ref p) H))) (n1 gTup) := by
  intro S H ds c xs Q hS hx hg k
  obtain ⟨d, e1, e2⟩ := n1_some hg
  subst e1
  obtain ⟨v, e3, q⟩ := reps1 hx
  subst e3
  cases d with
  | lst ds =>
    cases e2
    obtain ⟨a, vs, e4, h1, h2⟩ := q
    exact ⟨a, vs, by rw [e4], .inl ⟨ex_l mask_ex h1, fun p hp => k _ _ (Ex.new hp) ⟨p, _, rfl, .inl (.inl (mask_upd hS hp)), h2.ex (mask_new hp)⟩⟩⟩
  | tup ds =>
    cases e2
    obtain ⟨a, vs, e4, h1, h2⟩ := q
    exact ⟨a, vs, by rw [e4], .inr ⟨ex_t mask_ex h1, k _ H (Ex.refl _) ⟨a, vs, rfl, h1, h2⟩⟩⟩
  | _ => cases e2
def gLst : D → Option D
  | .lst ds => some (.lst ds)
  | .tup ds => some (.lst ds)
  | _ => none
end
section
variable {X : Cx} {W : WX} {pin : Bool} {tg e elt iter c : Expr} {es : List Expr} {m ml mh : EV D} {ms : EV (List D)} {pos p : Pos} {x : Str}
/-- a new list of e's items, owned -/
def mListO (ms : EV (List D)) : EV (D × Kd) := bnd ms fun ds => opt ((n1 gLst ds).map fun d => (d, .s .z))
theorem jo_list (hg : Gl X x) (hm : X.mg x = none) (hv : bootBuiltins x = some (.type "list")) (ha : JA X W [e] ms) (hn : x ≠ "__name__" := by decide) (hdb : (x == ("__debug__" : Str)) = false := by decide)
    (he : starEach [e] X.env = (false, eval e X.env) :: starEach [] X.env := by rfl) (hpl : (backTo pos (starEach [] X.env)).any (·.1) = false := by rfl) : JO X W (.Call (.Name x p) [e] [] pos) (mListO ms) :=
  pe_imp (pe_callTy call_list_of hg hm hv ha hn hdb he hpl) fun σ H Q h => by
    obtain ⟨S0, S, μ, rr, h⟩ := h
    refine ⟨S0, S, μ, rr, Post.bnd (Z' := ZFs X.K S0 σ) h fun S1 H1 μ1 ds vs g1 z1 h1 => ?_⟩
    cases q : n1 gLst ds with
    | none =>
      rw [q] at h1
      exact h1.elim
    | some c =>
      rw [q] at h1
      obtain ⟨d, e1, e2⟩ := n1_some q
      subst e1
      obtain ⟨v, e3, q1⟩ := reps1 z1.2
      subst e3
      have nw : ∀ {es : List D} {us : List V} {l : Addr}, H1 l = none → Reps X.K (mask H1 (S0 ++ S1)) es us → Gr S1 H1 (l :: S1) (upd H1 l (.lst us)) ∧ R X.K S0 (l :: S1) (upd H1 l (.lst us)) (some (.ref l) :: σ) (some (.lst es, .s .z) :: μ1) := fun {es us l} hl r => by
        refine ⟨⟨fun a o e n => Ex.new hl a o e, fun a ha => ?_⟩, ?_⟩
        · rcases List.mem_cons.mp ha with e | z
          · rw [e]
            exact .inr hl
          · exact .inl z
        · refine R.unlock (z1.1.lock hl) upd_same (fun z => z1.1.t0 l z hl) ?_
          refine r.ex (mask_mono fun a u n e => ⟨fun z => ?_, Ex.new hl a u e⟩)
          rcases List.mem_append.mp z with z | z
          · rcases List.mem_cons.mp z with z | z
            · rw [z, hl] at e
              cases e
            · exact n (List.mem_append_left _ z)
          · exact n (List.mem_append_right _ z)
      cases d with
      | lst es =>
        cases e2
        obtain ⟨a, us, e4, h3, h4⟩ := q1
        exact ⟨a, us, by rw [e4], .inl (ex_l mask_ex h3), fun l hl => h1 (l :: S1) _ _ (nw hl h4).1 (nw hl h4).2⟩
      | tup es =>
        cases e2
        obtain ⟨a, us, e4, h3, h4⟩ := q1
        exact ⟨a, us, by rw [e4], .inr (ex_t mask_ex h3), fun l hl => h1 (l :: S1) _ _ (nw hl h4).1 (nw hl h4).2⟩
      | _ => cases e2
/-! comprehensions -/
theorem jo_lc {ifs : List Expr} {scope : Scope} {own : List (Str × Nat)} {mi : EV (List D)} {g : TgE} {us : List Nat} {t : EV Bool} (hc : X.calm = true) (hN : X.N.Nodup) (hi : JI X W tg iter mi) (ok : BlkOk X.N X.env.scope scope own) (hus : us.all (fun t => (own.map (·.2)).contains t) = true)
    (hg : ∀ (s : Shared) (H : Hp) (C : Addr) (cl : List (Str × Addr)) (fp : List Addr), JG (X.blk s H scope (compEnvC scope cl C X.env) fp) us tg g) (ht : ∀ (s : Shared) (H : Hp) (C : Addr) (cl : List (Str × Addr)) (fp : List Addr), JTs (X.blk s H scope (compEnvC scope cl C X.env) fp) W0 ifs t)
    (he : ∀ (s : Shared) (H : Hp) (C : Addr) (cl : List (Str × Addr)) (fp : List Addr), JF (X.blk s H scope (compEnvC scope cl C X.env) fp) W0 elt m) (hs : ∀ x, foldedSetIterable iter X.env x = pure x := by intro _; rfl) :
    JO X W (.ListComp elt [⟨tg, iter, ifs, 0⟩] scope pos) (mLc mi (own.map (·.2)) g t m) := pe_imp (pe_lc hc hN hi ok hg ht he hs) fun σ H Q h => lc_run hus h
theorem js_setLc {i : Nat} {y : Str} {py spos : Pos} {ifs : List Expr} {scope : Scope} {own : List (Str × Nat)} {mi : EV (List D)} {g : TgE} {us : List Nat} {t : EV Bool} (hp : (pin && i == 0) = false) (hc : X.calm = true) (hN : X.N.Nodup) (hy : X.N[i]? = some y) (hyl : X.env.scope.names.lookup y = some .local)
    (hsw : swapsWith (.ListComp elt [⟨tg, iter, ifs, 0⟩] scope pos) (some (.Name y py)) spos.line X.env = pure true) (hi : JI X W tg iter mi) (ok : BlkOk X.N X.env.scope scope own) (hus : us.all (fun t => (own.map (·.2)).contains t) = true)
    (hg : ∀ (s : Shared) (H : Hp) (C : Addr) (cl : List (Str × Addr)) (fp : List Addr), JG (X.blk s H scope (compEnvC scope cl C X.env) fp) us tg g) (ht : ∀ (s : Shared) (H : Hp) (C : Addr) (cl : List (Str × Addr)) (fp : List Addr), JTs (X.blk s H scope (compEnvC scope cl C X.env) fp) W0 ifs t)
    (he : ∀ (s : Shared) (H : Hp) (C : Addr) (cl : List (Str × Addr)) (fp : List Addr), JF (X.blk s H scope (compEnvC scope cl C X.env) fp) W0 elt m) (hs : ∀ x, foldedSetIterable iter X.env x = pure x := by intro _; rfl) :
    JS X W pin (.Assign [.Name y py] (.ListComp elt [⟨tg, iter, ifs, 0⟩] scope pos) spos) (mSetO i (mLc mi (own.map (·.2)) g t m)) := ps_imp (ps_setLc hc hN hy hyl hsw hi ok hg ht he hs) fun D σ H h => by
  obtain ⟨S0, S, μ, r, h⟩ := h
  refine lc_run hus ⟨S0, S, μ, r, PostS.bnd (Z' := ZO X.K S0 σ) h fun S1 H1 μ1 d v g1 z1 h1 => put_run hp z1 h1⟩
/-- a frozen value kept in a slot -/
def mSetF (i : Nat) (m : EV (D × Kd)) : MS := mSetO i (bnd m fun dk => giv (dk.1, .z))
end
end Mn
end
section
/-! Mn: join, owned lists changed by methods. -/
namespace Mn
open PySem PySem.Spec PyProof.Rows L2
section
variable {K : Frag}
def joinD (x : List Nat) (ds : List D) : Option D := (asStrs ds).bind fun ys => bif decide ((ys.map (·.length)).sum + ys.length * x.length ≤ 16777216) then some (.str (TL.joinL x ys)) else none
def gJoin (x : List Nat) (e : D) : Option D := match e with
  | .lst ds => joinD x ds
  | .tup ds => joinD x ds
  | _ => none
def asStr : D → Option (List Nat)
  | .str x => some x
  | _ => none
def mJoin (a b : EV D) : EV D := bnd a fun d => bnd (opt (asStr d)) fun x => bnd b fun y => opt (gJoin x y)
theorem joinL_nil : ∀ ys : List (List Nat), TL.joinL [] ys = ys.flatten
  | [] => rfl
  | [p] => by simp [TL.joinL]
  | p :: q :: r => by
    show p ++ ([] ++ TL.joinL [] (q :: r)) = _
    rw [joinL_nil (q :: r)]
    rfl
theorem joinD_ok {x : List Nat} {ds : List D} {c : D} (h : joinD x ds = some c) : ∃ ys, asStrs ds = some ys ∧ (ys.map (·.length)).sum + ys.length * x.length ≤ 16777216 ∧ c = .str (TL.joinL x ys) := by
  unfold joinD at h
  cases q : asStrs ds with
  | none => rw [q] at h; cases h
  | some ys =>
    rw [q] at h
    have h' : (bif decide ((ys.map (·.length)).sum + ys.length * x.length ≤ 16777216) then some (D.str (TL.joinL x ys)) else none) = some c := h
    cases hb : decide ((ys.map (·.length)).sum + ys.length * x.length ≤ 16777216) with
    | false => rw [hb] at h'; cases h'
    | true =>
      rw [hb] at h'
      cases h'
      exact ⟨ys, rfl, of_decide_eq_true hb, rfl⟩
end
section
variable {X : Cx} {W : WX} {pin : Bool} {e o c : Expr} {es : List Expr} {m mo : EV D} {ms : EV (List D)} {pos p apos cpos : Pos} {x : Str}
theorem lens_S (ys : List (List Nat)) : ((ys.map fun x => (⟨x.toArray⟩ : Str)).map (·.length)) = ys.map (·.length) := SX.lens ys
theorem j_join (ho : JF X W o mo) (he : JF X W e m) (hs : starEach [e] X.env = [(false, eval e X.env)] := by rfl) (hbase : attributeBase o "join" X.env (eval o X.env) = eval o X.env := by rfl) (hline : (apos.endLine == pos.line) = true := by rfl) :
    JF X W (.Call (.Attribute o "join" apos) [e] [] pos) (mJoin mo m) := by
  refine pe_imp (pe_join ho he hs hbase hline) fun σ H Q h => ?_
  obtain ⟨S0, S, μ, rr, h⟩ := h
  refine ⟨S0, S, μ, rr, Post.bnd (Z' := ZF X.K S0 σ) h fun S1 H1 μ1 d v g1 z1 h1 => ?_⟩
  cases d with
  | str x =>
    have ev : v = .str ⟨x.toArray⟩ := z1.2
    have h1 : Post X.K X.mg W S0 S1 σ H1 (ZF X.K S0 σ) (bnd m (fun y => opt (gJoin x y)) μ1) Q := h1
    refine ⟨⟨_, ev⟩, S0, S1, μ1, z1.1, Post.bnd (Z' := ZF X.K S0 σ) h1 fun S2 H2 μ2 y u g2 z2 h2 => ?_⟩
    have key : ∀ {ds : List D} {a : Addr} {us : List V}, u = .ref a → (SqL X.K H2 a us ∨ SqT X.K H2 a us) → Reps X.K (mask H2 (S0 ++ S2)) ds us → Post X.K X.mg W S0 S2 σ H2 (ZF X.K S0 σ) (opt (joinD x ds) μ2) Q →
        ∃ b p, ∃ ys : List Str, v = .str b ∧ [u] = [.ref p] ∧ (SqL X.K H2 p (ys.map V.str) ∨ SqT X.K H2 p (ys.map V.str)) ∧ (ys.map (·.length)).sum + ys.length * b.length ≤ 16777216 ∧ Q (.str (Txt.join b ys)) H2 := fun {ds a us} eu hq r h3 => by
      cases q : joinD x ds with
      | none =>
        rw [q] at h3
        exact h3.elim
      | some c =>
        rw [q] at h3
        obtain ⟨ys, e1, e2, e3⟩ := joinD_ok q
        subst e3
        have e4 := asStrs_ok e1 r
        subst e4
        refine ⟨_, a, _, ev, by rw [eu], hq, ?_, h3 S2 H2 _ Gr.refl ⟨z2.1, ?_⟩⟩
        · rw [lens_S, List.length_map, str_len]
          exact e2
        · show _ = _
          have := SX.join_S x ys
          exact congrArg V.str this
    cases y with
    | lst ds =>
      obtain ⟨a, us, e1, q1, q2⟩ := z2.2
      exact key e1 (.inl (ex_l mask_ex q1)) q2 h2
    | tup ds =>
      obtain ⟨a, us, e1, q1, q2⟩ := z2.2
      exact key e1 (.inr (ex_t mask_ex q1)) q2 h2
    | _ => exact h2.elim
  | _ => exact h1.elim
/-! ### owned lists, changed -/
theorem R.own1 {K : Frag} {S0 S : List Addr} {H : Hp} {σ : List (Option V)} {μ : M} {i : Nat} {ds : List D} {v : V} (r : R K S0 S H σ μ) (q : μ[i]? = some (some (.lst ds, .s .z))) (ev : σ[i]? = some (some v)) :
    ∃ a vs, v = .ref a ∧ H a = some (.lst vs) ∧ Reps K (mask H (S0 ++ S)) ds vs ∧ ∀ {es : List D} {us : List V}, Reps K (mask H (S0 ++ S)) es us → ∃ S3, Gr S H S3 (upd H a (.lst us)) ∧ R K S0 S3 (upd H a (.lst us)) σ (μ.set i (some (.lst es, .s .z))) := by
  obtain ⟨Sa, Sb, rl, ex, ma, mb, mm, back⟩ := r.lend q ev
  obtain ⟨v', T1, T2, e1, e2, q1, q2⟩ := rl.sl
  cases e1
  obtain ⟨a, vs, T3, e3, e4, e5, q3⟩ := q1
  obtain ⟨e6, q4⟩ := owns_z q3
  subst e6
  have e7 : T2 = [] := q2
  subst e7
  have eSa : Sa = [a] := by rw [e2, e5]; rfl
  have em : mask H (S0 ++ Sb ++ Sa) = mask H (S0 ++ S) := mask_perm fun b => by
    constructor
    · intro z
      rcases List.mem_append.mp z with z | z
      · rcases List.mem_append.mp z with z | z
        · exact List.mem_append_left _ z
        · exact List.mem_append_right _ (mb b z)
      · exact List.mem_append_right _ (ma b z)
    · intro z
      rcases List.mem_append.mp z with z | z
      · exact List.mem_append_left _ (List.mem_append_left _ z)
      · rcases mm b z with z | z
        · exact List.mem_append_right _ z
        · exact List.mem_append_left _ (List.mem_append_right _ z)
  refine ⟨a, vs, e3, e4, by rw [← em]; exact q4, fun {es us} p => ?_⟩
  have g3 : Gr Sa H Sa (upd H a (.lst us)) := ⟨fun b o e nb => by
    rw [upd_ne (fun z => nb (by rw [eSa, z]; exact List.mem_cons_self))]
    exact e, fun b hb => .inl hb⟩
  have m4 : Ex (mask H (S0 ++ Sb ++ Sa)) (mask (upd H a (.lst us)) (S0 ++ Sb ++ Sa)) := Gr.mask g3
  have rl' : R K (S0 ++ Sb) Sa (upd H a (.lst us)) [some v] [some (.lst es, .s .z)] := by
    refine ⟨fun b hb => ?_, rl.dis, rl.nd, ⟨v, Sa, [], rfl, by simp, ⟨a, us, [], e3, upd_same, eSa, owns_of (Reps.ex m4 (by rw [em]; exact p))⟩, rfl⟩⟩
    by_cases hba : b = a
    · rw [hba, upd_same]
      exact fun z => nomatch z
    · rw [upd_ne hba]
      exact rl.t0 b hb
  obtain ⟨S3, g5, r5, _⟩ := back (τ := []) (ν := []) g3 rl' rfl
  exact ⟨S3, g5, r5⟩
def upL {α : Type} (i : Nat) (μ : M) (f : List D → Option (α × List D)) : Option (Res α × M) := (ownL μ i).bind fun ds => (f ds).bind fun c => some (.ok c.1, μ.set i (some (.lst c.2, .s .z)))
theorem upL_eq {α : Type} {i : Nat} {μ : M} {f : List D → Option (α × List D)} {z : Res α × M} (h : upL i μ f = some z) : ∃ ds c es, μ[i]? = some (some (.lst ds, .s .z)) ∧ f ds = some (c, es) ∧ z = (.ok c, μ.set i (some (.lst es, .s .z))) := by
  unfold upL at h
  cases q : ownL μ i with
  | none => rw [q] at h; cases h
  | some ds =>
    rw [q] at h
    have h : (f ds).bind (fun c => some (Res.ok c.1, μ.set i (some (.lst c.2, .s .z)))) = some z := h
    cases q2 : f ds with
    | none => rw [q2] at h; cases h
    | some c =>
      rw [q2] at h
      cases h
      exact ⟨ds, c.1, c.2, ownL_eq q, q2, rfl⟩
/-- a slot that holds an owned list -/
def hasL (i : Nat) {α : Type} (a : EV α) : EV α := fun μ => (ownL μ i).bind fun _ => a μ
theorem hasL_run {α β : Type} {K : Frag} {mg : Str → Option Value} {S0 S : List Addr} {σ : Sg} {H : Hp} {Z : List Addr → Hp → M → α → β → Prop} {i : Nat} {a : EV α} {μ : M} {Q : β → Hp → Prop} (h : Post K mg W S0 S σ H Z (hasL i a μ) Q) (r : R K S0 S H σ μ) :
    ∃ v b vs, σ[i]? = some (some v) ∧ v = .ref b ∧ H b = some (.lst vs) ∧ Post K mg W S0 S σ H Z (a μ) Q := by
  unfold hasL at h
  cases q : ownL μ i with
  | none =>
    rw [q] at h
    exact h.elim
  | some ds =>
    rw [q] at h
    have q' := ownL_eq q
    obtain ⟨v, S1, S2, e1, _⟩ := r.sl.take q'
    obtain ⟨b, vs, e2, e3, _⟩ := r.own1 q' e1
    exact ⟨v, b, vs, e1, e2, e3, h⟩
/-- x.append(e), x.pop(e) .. -/
def mUp1 (i : Nat) (f : D → List D → Option (D × List D)) (m : EV D) : EV D := hasL i (bnd m fun d => fun μ => upL i μ (f d))
/-- the method's reading r does f on the slot's list -/
def Up1 (K : Frag) (r : V → List V → Hp → VK → Prop) (f : D → List D → Option (D × List D)) : Prop := ∀ (F H : Hp) (a : Addr) (vs : List V) (ds : List D) (d : D) (v : V) (c : D) (es : List D) (Q : VK), Ex F H → H a = some (.lst vs) → Reps K F ds vs → Rep K F d v → f d ds = some (c, es) →
  (∀ u us, Rep K F c u → Reps K F es us → Q u (upd H a (.lst us))) → r (.ref a) [v] H Q
theorem up1_run {K : Frag} {mg : Str → Option Value} {r : V → List V → Hp → VK → Prop} {f : D → List D → Option (D × List D)} (hf : Up1 K r f) {i : Nat} {σ : Sg} {H : Hp} {Q : VK} (h : tF K mg W (mUp1 i f m) σ H Q) : tBM K "list" r (tVar i) (tCons (tF K mg W m) tNil) σ H Q := by
  obtain ⟨S0, S, μ, rr, h⟩ := h
  obtain ⟨v, b, vs, ev, eb, hb, h⟩ := hasL_run h rr
  refine ⟨v, ev, ?_, S0, S, μ, rr, Post.bnd (Z' := ZF K S0 σ) h fun S1 H1 μ1 d u g1 z1 h1 => ?_⟩
  · subst eb
    exact .inl ⟨rfl, vs, SqL.of hb⟩
  · cases q : upL i μ1 (f d) with
    | none =>
      rw [q] at h1
      exact h1.elim
    | some z =>
      rw [q] at h1
      obtain ⟨ds, c, es, q1, q2, q3⟩ := upL_eq q
      subst q3
      obtain ⟨a, us, e1, e2, e3, back⟩ := z1.1.own1 q1 ev
      subst e1
      refine hf (mask H1 (S0 ++ S1)) H1 a us ds d u c es Q mask_ex e2 e3 z1.2 q2 fun w ws p1 p2 => ?_
      obtain ⟨S3, g3, r3⟩ := back p2
      exact h1 S3 _ w g3 ⟨r3, p1.ex g3.mask⟩
def fApp (d : D) (ds : List D) : Option (D × List D) := if ds.length < 16777216 then some (.non, ds ++ [d]) else none
theorem up_app {K : Frag} : Up1 K rAppend fApp := fun F H a vs ds d v c es Q ex hH r p hf k => by
  unfold fApp at hf
  split at hf
  · rename_i hl
    cases hf
    exact ⟨a, vs, v, rfl, rfl, hH, by rw [r.length, sizeLine_eq]; exact hl, k .non _ rfl (r.append (Reps.cons p Reps.nil))⟩
  · cases hf
def fPop (d : D) (ds : List D) : Option (D × List D) := match d with
  | .int i => bif inR i then (seqIndex? i ds.length).bind fun k => (ds[k]?).map fun c => (c, ds.eraseIdx k) else none
  | _ => none
theorem Reps.erase {K : Frag} {F : Hp} : ∀ {ds : List D} {vs : List V} (i : Nat), Reps K F ds vs → Reps K F (ds.eraseIdx i) (vs.eraseIdx i)
  | [], vs, i, h => by
    have e : vs = [] := h
    subst e
    exact Reps.nil
  | d :: ds, vs, 0, h => by
    obtain ⟨v, r, e, q1, q2⟩ := h
    subst e
    exact q2
  | d :: ds, vs, i + 1, h => by
    obtain ⟨v, r, e, q1, q2⟩ := h
    subst e
    exact Reps.cons q1 (Reps.erase i q2)
theorem up_pop {K : Frag} : Up1 K rPopAt fPop := fun F H a vs ds d v c es Q ex hH r p hf k => by
  unfold fPop at hf
  cases d with
  | int i =>
    dsimp only at hf
    cases hb : inR i with
    | false => rw [hb] at hf; cases hf
    | true =>
      rw [hb] at hf
      have hr := inR_ok hb
      have hf : (seqIndex? i ds.length).bind (fun k => (ds[k]?).map fun c => (c, ds.eraseIdx k)) = some (c, es) := hf
      cases q : seqIndex? i ds.length with
      | none => rw [q] at hf; cases hf
      | some j =>
        rw [q] at hf
        have hf : (ds[j]?).map (fun c => (c, ds.eraseIdx j)) = some (c, es) := hf
        cases q2 : ds[j]? with
        | none => rw [q2] at hf; cases hf
        | some x =>
          rw [q2] at hf
          cases hf
          obtain ⟨w, w1, w2⟩ := r.get q2
          exact ⟨a, vs, i, j, w, rfl, by rw [show v = .int i from p], hH, by omega, by omega, by rw [r.length]; exact q, w1, k w _ w2 (r.erase j)⟩
  | _ => cases hf
theorem j_up1 {i : Nat} {y nm : Str} {id : String} {py : Pos} {r : V → List V → Hp → VK → Prop} {f : D → List D → Option (D × List D)} (slot : Slot "list" nm id) (hty : typeOf (.builtin id) = pure (.type "method_descriptor")) (hm : MtR X id r) (hf : Up1 X.K r f)
    (hN : X.N[i]? = some y) (hv : Vis X.env.scope y) (he : JF X W e m) (hd : (y == ("__debug__" : Str)) = false := by decide) (hcd : (y == ("__classdict__" : Str)) = false := by decide)
    (hbase : attributeBase (.Name y py) nm X.env (eval (.Name y py) X.env) = eval (.Name y py) X.env := by rfl)
    (hfew : ((backTo cpos (starEach [e] X.env)).all (fun x => !x.1) && (backToKw cpos (keywordEach [] X.env)).all (fun x => x.1.isSome) && decide ([e].length + ([] : List Keyword).length + (if ([] : List Keyword).isEmpty then 0 else 1) < 30)) = true := by rfl)
    (hline : (apos.endLine == cpos.line) = true := by rfl) (hs : starEach [e] X.env = (false, eval e X.env) :: starEach [] X.env := by rfl) (hplain : (backTo cpos (starEach [] X.env)).any (·.1) = false := by rfl) :
    JF X W (.Call (.Attribute (.Name y py) nm apos) [e] [] cpos) (mUp1 i f m) :=
  pe_imp (pe_bm PySem.F.plainAttrs_list slot hty hm (pe_var hN hv hd hcd) (pa_cons he pa_nil hs) hbase hfew hline hs hplain) fun σ H Q h => up1_run hf h
/-! ### the slot's list in passing: its part -/
def mSlB (i : Nat) (l h : EV (Option Int)) : EV D := has i (bnd l fun a => bnd h fun b => fun μ => bw μ (fun d => gSl d a b) (brw μ i))
end
end Mn
end
section
/-! Mn: dicts made. -/
namespace Mn
open PySem PySem.Spec PyProof.Rows L2
def keysOf : List D → Option (List Key)
  | [] => some []
  | d :: ds => (keyD d).bind fun k => (keysOf ds).map fun r => k :: r
theorem keysOf_map : ∀ {ds : List D} {ks : List Key}, keysOf ds = some ks → ds.map keyD = ks.map some
  | [], ks, h => by cases h; rfl
  | d :: ds, ks, h => by
    have h : (keyD d).bind (fun k => (keysOf ds).map fun r => k :: r) = some ks := h
    cases q : keyD d with
    | none => rw [q] at h; cases h
    | some k =>
      rw [q] at h
      have h : (keysOf ds).map (fun r => k :: r) = some ks := h
      cases q2 : keysOf ds with
      | none => rw [q2] at h; cases h
      | some r =>
        rw [q2] at h
        cases h
        rw [List.map_cons, List.map_cons, q, keysOf_map q2]
theorem keysOf_v {K : Frag} {F : Hp} : ∀ {ds : List D} {ks : List Key} {vs : List V}, keysOf ds = some ks → Reps K F ds vs → vs = ks.map kV
  | [], ks, vs, h, r => by
    cases h
    exact r
  | d :: ds, ks, vs, h, r => by
    have h : (keyD d).bind (fun k => (keysOf ds).map fun r => k :: r) = some ks := h
    cases q : keyD d with
    | none => rw [q] at h; cases h
    | some k =>
      rw [q] at h
      have h : (keysOf ds).map (fun r => k :: r) = some ks := h
      cases q2 : keysOf ds with
      | none => rw [q2] at h; cases h
      | some r' =>
        rw [q2] at h
        cases h
        obtain ⟨v, us, e, p1, p2⟩ := r
        subst e
        rw [keyD_rep q p1, keysOf_v q2 p2]
        rfl
/-- no key twice -/
def distK : List Key → Bool
  | [] => true
  | k :: ks => !(ks.any fun j => decide (j = k)) && distK ks
theorem valV_none {k : Key} : ∀ {kvs : List (Key × V)}, (kvs.map (·.1)).any (fun j => decide (j = k)) = false → valV kvs k = none
  | [], _ => rfl
  | p :: r, h => by
    rw [List.map_cons, List.any_cons, Bool.or_eq_false_iff] at h
    rw [valV_neg (of_decide_eq_false h.1)]
    exact valV_none h.2
theorem merge_app : ∀ (more kvs : List (Key × V)), distK (more.map (·.1)) = true → (∀ p ∈ more, valV kvs p.1 = none) → mergeK kvs more = kvs ++ more
  | [], kvs, _, _ => by
    rw [List.append_nil]
    rfl
  | p :: r, kvs, h, hv => by
    have h2 := Bool.and_eq_true_iff.mp h
    have h3 : ((r.map (·.1)).any fun j => decide (j = p.1)) = false := by
      have := h2.1
      simpa using this
    show mergeK (putK kvs p.1 p.2) r = _
    rw [putK_new p.2 (hv p List.mem_cons_self), merge_app r _ h2.2 fun q hq => ?_]
    · rw [List.append_assoc]
      rfl
    · rw [valV_snoc p.1 q.1 p.2 kvs (hv p List.mem_cons_self), if_neg, hv q (List.mem_cons_of_mem _ hq)]
      intro e
      have : ((r.map (·.1)).any fun j => decide (j = p.1)) = true := List.any_eq_true.mpr ⟨q.1, List.mem_map_of_mem hq, decide_eq_true e⟩
      rw [h3] at this
      cases this
theorem merge_self {kvs : List (Key × V)} (h : distK (kvs.map (·.1)) = true) : mergeK [] kvs = kvs := by
  have := merge_app kvs [] h fun _ _ => rfl
  simpa using this
section
variable {X : Cx} {W : WX} {pin : Bool} {e o c : Expr} {es : List Expr} {m mo : EV D} {ms : EV (List D)} {pos p apos cpos : Pos} {x : Str}
def mPairs : List (EV D × EV D) → EV (List D × List D)
  | [] => giv ([], [])
  | (k, v) :: r => bnd k fun x => bnd v fun y => bnd (mPairs r) fun p => giv (x :: p.1, y :: p.2)
abbrev trsOf (K : Frag) (mg : Str → Option Value) (W : WX) (ps : List (EV D × EV D)) : List (TE × TE) := ps.map fun p => (tF K mg W p.1, tF K mg W p.2)
abbrev JPs (X : Cx) (W : WX) (pos : Pos) (keys : List (Option Expr)) (values : List Expr) (ps : List (EV D × EV D)) : Prop := PPs X pos keys values (trsOf X.K X.mg W ps)
theorem jps_nil : JPs X W pos [] [] [] := pps_nil
theorem jps_cons {k v : Expr} {ks : List (Option Expr)} {vs : List Expr} {mk mv : EV D} {ps : List (EV D × EV D)} (hk : JF X W k mk) (hv : JF X W v mv) (hr : JPs X W pos ks vs ps) : JPs X W pos (some k :: ks) (v :: vs) ((mk, mv) :: ps) := pps_cons hk hv hr
def ZPs (K : Frag) (S0 : List Addr) (σ : Sg) : List Addr → Hp → M → (List D × List D) → List (V × V) → Prop := fun S H μ d v => R K S0 S H σ μ ∧ Reps K (mask H (S0 ++ S)) d.1 (v.map (·.1)) ∧ Reps K (mask H (S0 ++ S)) d.2 (v.map (·.2))
theorem pairs_run {K : Frag} {mg : Str → Option Value} {S0 : List Addr} {σ : Sg} : ∀ {ps : List (EV D × EV D)} {S : List Addr} {H : Hp} {μ : M} {Q : List (V × V) → Hp → Prop}, R K S0 S H σ μ → Post K mg W S0 S σ H (ZPs K S0 σ) (mPairs ps μ) Q → tPairs (trsOf K mg W ps) σ H Q
  | [], S, H, μ, Q, r, h => h S H [] Gr.refl ⟨r, Reps.nil, Reps.nil⟩
  | (k, v) :: ps, S, H, μ, Q, r, h => by
    refine ⟨S0, S, μ, r, Post.bnd (Z' := ZF K S0 σ) h fun S1 H1 μ1 d u g1 z1 h1 => ?_⟩
    refine ⟨S0, S1, μ1, z1.1, Post.bnd (Z' := ZF K S0 σ) h1 fun S2 H2 μ2 d2 u2 g2 z2 h2 => ?_⟩
    refine pairs_run z2.1 (Post.bnd (Z' := ZPs K S0 σ) h2 fun S3 H3 μ3 dp vp g3 z3 h3 => ?_)
    exact h3 S3 H3 _ Gr.refl ⟨z3.1, Reps.cons ((z1.2.ex g2.mask).ex g3.mask) z3.2.1, Reps.cons (z2.2.ex g3.mask) z3.2.2⟩
theorem R.unlockD {K : Frag} {S0 S : List Addr} {H : Hp} {σ : List (Option V)} {μ : M} {L : Addr} {kvs : List (Key × V)} {ks ds : List D} (r : R K (L :: S0) S H σ μ) (hL : H L = some (.dK kvs)) (n0 : L ∉ S0) (hk : ks.map keyD = kvs.map fun p => some p.1) (q : Reps K (mask H (L :: S0 ++ S)) ds (kvs.map fun p => p.2)) :
    R K S0 (L :: S) H (some (.ref L) :: σ) (some (.dct ks ds, .s .z) :: μ) := by
  have mm : ∀ a, a ∈ L :: S0 ++ S ↔ a ∈ S0 ++ L :: S := fun a => by simp; constructor <;> (rintro (z | z | z) <;> simp [z])
  have em : mask H (L :: S0 ++ S) = mask H (S0 ++ L :: S) := mask_perm mm
  have nS : L ∉ S := fun z => r.dis L z List.mem_cons_self
  refine ⟨fun a ha => r.t0 a (List.mem_cons_of_mem _ ha), fun a ha => ?_, List.nodup_cons.mpr ⟨nS, r.nd⟩, ⟨.ref L, [L], S, rfl, rfl, ⟨L, kvs, [], rfl, hL, rfl, hk, owns_of (by rw [← em]; exact q)⟩, ?_⟩⟩
  · rcases List.mem_cons.mp ha with e | z
    · rw [e]
      exact n0
    · exact fun w => r.dis a z (List.mem_cons_of_mem _ w)
  · have := r.sl
    unfold own at this ⊢
    rw [em] at this
    exact this
def okDisp (p : List D × List D) : Bool := decide (p.1.length ≤ 15) && (match keysOf p.1 with | some ks => distK ks | none => false)
/-- {k: v, ..} -/
def mDispO (ps : List (EV D × EV D)) : EV (D × Kd) := fun μ => RsQ (mPairs ps μ) fun p μ' => op' μ' (bif okDisp p then some (.dct p.1 p.2, .s .z) else none)
theorem zip_fst {α β : Type} (l : List (α × β)) : (l.map (·.1)).zip (l.map (·.2)) = l := by
  induction l with
  | nil => rfl
  | cons x l ih => rw [List.map_cons, List.map_cons, List.zip_cons_cons, ih]
theorem jo_disp {keys : List (Option Expr)} {values : List Expr} {ps : List (EV D × EV D)} (h : JPs X W pos keys values ps) (hall : keys.all (·.isSome) = true) (hl : keys.length = values.length) (h0 : keys ≠ []) (h15 : keys.length ≤ 15) : JO X W (.Dict keys values pos) (mDispO ps) := by
  refine pe_imp (pe_disp h hall hl h0 h15) fun σ H Q h => ?_
  obtain ⟨S0, S, μ, rr, h⟩ := h
  intro L hL
  have nL : L ∉ S0 ++ S := fun z => rr.tr L z hL
  have rl := rr.lock (o := .dK []) hL
  have h0 : Post X.K X.mg W S0 S σ H (ZO X.K S0 σ) (mDispO ps μ) Q := h
  -- the pairs, the dict kept
  have h1 : Post X.K X.mg W (L :: S0) S σ (upd H L (.dK [])) (ZPs X.K (L :: S0) σ) (mPairs ps μ) fun ps H2 => H2 L = some (.dK []) ∧ ∃ kvs : List (Key × V), ps = kvs.map (fun kv => (kV kv.1, kv.2)) ∧ kvs.length ≤ 15 ∧ Q (.ref L) (upd H2 L (.dK (mergeK [] kvs))) := by
    unfold mDispO at h0
    unfold RsQ at h0
    match q : mPairs ps μ, h0 with
    | none, h0 => exact h0
    | some (.exn e, μ'), h0 => exact h0.elim
    | some (.ok p, μ'), h0 =>
      intro S' H' pv g z
      obtain ⟨z1, z2, z3⟩ := z
      have h0 : Post X.K X.mg W S0 S σ H (ZO X.K S0 σ) (op' μ' (bif okDisp p then some (.dct p.1 p.2, .s .z) else none)) Q := h0
      cases ho : okDisp p with
      | false =>
        rw [ho] at h0
        exact h0.elim
      | true =>
        rw [ho] at h0
        have h0 : ∀ S' H' b, Gr S H S' H' → ZO X.K S0 σ S' H' μ' (.dct p.1 p.2, .s .z) b → Q b H' := h0
        have hL' : H' L = some (.dK []) := g.keep L _ upd_same fun z => nL (List.mem_append_right _ z)
        have nS' : L ∉ S' := fun z => z1.dis L z List.mem_cons_self
        unfold okDisp at ho
        obtain ⟨o1, o2⟩ := Bool.and_eq_true_iff.mp ho
        cases qk : keysOf p.1 with
        | none =>
          rw [qk] at o2
          cases o2
        | some ks =>
          rw [qk] at o2
          have o2 : distK ks = true := o2
          have ek := keysOf_v qk z2
          have lk : ks.length = pv.length := by
            have := congrArg List.length ek
            simpa using this.symm
          have epv : pv = (ks.zip (pv.map (·.2))).map (fun kv => (kV kv.1, kv.2)) := by
            have e1 : (ks.zip (pv.map (·.2))).map (fun kv => (kV kv.1, kv.2)) = (ks.map kV).zip (pv.map (·.2)) := by
              rw [List.zip_map_left]
              rfl
            rw [e1, ← ek, zip_fst]
          have f1 : (ks.zip (pv.map (·.2))).map (fun p => p.1) = ks := by
            have := List.map_fst_zip (l₁ := ks) (l₂ := pv.map (·.2)) (by rw [List.length_map, lk]; exact Nat.le_refl _)
            exact this
          have f2 : (ks.zip (pv.map (·.2))).map (fun p => p.2) = pv.map (·.2) := by
            have := List.map_snd_zip (l₁ := ks) (l₂ := pv.map (·.2)) (by rw [List.length_map, lk]; exact Nat.le_refl _)
            exact this
          refine ⟨hL', ks.zip (pv.map (·.2)), epv, ?_, ?_⟩
          · rw [List.length_zip, List.length_map, lk, Nat.min_self, ← lk]
            have := of_decide_eq_true o1
            have l2 := z2.length
            rw [List.length_map] at l2
            omega
          · rw [merge_self (by rw [f1]; exact o2)]
            refine h0 (L :: S') _ _ ⟨fun a o e n => ?_, fun a ha => ?_⟩ (R.unlockD z1.kept upd_same (fun z => nL (List.mem_append_left _ z)) ?_ ?_)
            · rw [upd_ne (ne_of_none e hL)]
              exact g.keep a o (by rw [upd_ne (ne_of_none e hL)]; exact e) n
            · rcases List.mem_cons.mp ha with e | z
              · rw [e]
                exact .inr hL
              · rcases g.new a z with w | w
                · exact .inl w
                · refine .inr ?_
                  by_cases e : a = L
                  · rw [e]; exact hL
                  · rw [upd_ne e] at w
                    exact w
            · rw [keysOf_map qk]
              have : (ks.zip (pv.map (·.2))).map (fun p => some p.1) = ((ks.zip (pv.map (·.2))).map (fun p => p.1)).map some := by rw [List.map_map]; rfl
              rw [this, f1]
            · rw [f2, mask_kept]
              exact z3
  exact pairs_run rl h1
end
end Mn
end
section
/-! Mn: module constants, blocks, the hook. -/
namespace Mn
open PySem PySem.Spec PyProof.Rows L2
section
variable {X : Cx} {W : WX} {x : Str} {p : Pos}
theorem j_gstr {cs : List Nat} {z : Str} (hg : Gl X x) (hm : ∃ t, X.mg x = some (.str z t)) (hz : z = ⟨cs.toArray⟩) (hd : (x == ("__debug__" : Str)) = false := by decide) : JF X W (.Name x p) (giv (.str cs)) := by
  obtain ⟨t, hm⟩ := hm
  exact j_glob hg hm (v := .str z) ⟨t, rfl⟩ (fun _ => by rw [hz]; rfl) hd
theorem j_gtup {a : Addr} {vs : List V} {ds : List D} (hg : Gl X x) (hm : X.mg x = some (.ref a)) (hS : ∀ H, SqT X.K H a vs) (hr : ∀ F, Reps X.K F ds vs) (hd : (x == ("__debug__" : Str)) = false := by decide) : JF X W (.Name x p) (giv (.tup ds)) :=
  j_glob hg hm (v := .ref a) rfl (fun F => ⟨a, vs, rfl, hS F, hr F⟩) hd
end
def dvD : He.Dv → D
  | .int i => .int i
  | .bl b => .bl b
  | .str x => .str x.cps.toList
  | _ => .non
def dvOk : He.Dv → Bool
  | .int _ | .bl _ | .str _ => true
  | _ => false
theorem reps_dv {K : Frag} {F : Hp} : ∀ {vs : List He.Dv}, vs.all dvOk = true → Reps K F (vs.map dvD) (vs.map (He.Dv.v K))
  | [], _ => rfl
  | v :: vs, h => by
    rw [List.all_cons] at h
    have h2 := Bool.and_eq_true_iff.mp h
    refine Reps.cons ?_ (reps_dv h2.2)
    cases v with
    | int i => rfl
    | bl i => rfl
    | str i => rfl
    | _ => cases h2.1
theorem j_gtupD {X : Cx} {W : WX} {x : Str} {p : Pos} {vs : List He.Dv} (hg : Gl X x) (hm : X.mg x = some (.ref (He.ga X.K x))) (hb : He.tupB X.K x vs = true) (hv : vs.all dvOk = true) (hd : (x == ("__debug__" : Str)) = false := by decide) : JF X W (.Name x p) (giv (.tup (vs.map dvD))) :=
  j_gtup hg hm (fun H => He.tupB_ok hb H) (fun F => reps_dv hv) hd
/-! ### blocks -/
def Frs (sc : Scope) : List Str → Prop
  | [] => True
  | x :: xs => (sc.names.lookup x = some .cell ∨ sc.names.lookup x = some .free) ∧ Frs sc xs
theorem frs_mem {sc : Scope} : ∀ {xs : List Str} {x : Str}, Frs sc xs → x ∈ xs → sc.names.lookup x = some .cell ∨ sc.names.lookup x = some .free
  | [], x, _, h => by cases h
  | y :: ys, x, f, h => by
    rcases List.mem_cons.mp h with e | e
    · rw [e]
      exact f.1
    · exact frs_mem f.2 e
def blkF (N : List Str) (scope : Scope) (own : List (Str × Nat)) (frees : List Str) : Bool :=
  (match scope.kind with | .function => true | _ => false) && (scope.names.all fun y => decide (scope.names.lookup y.1 = some y.2)) && (own.all fun p => decide (N[p.2]? = some p.1)) &&
    (scope.names.all fun y => match y.2 with
      | .free => decide (y.1 ∈ frees)
      | .local => decide (y.1 ∈ own.map (·.1)) || decide (y.1 ∉ N)
      | .cell => decide (y.1 ∈ own.map (·.1)) || decide (y.1 ∉ N)
      | _ => true)
theorem blkOk_fr {N : List Str} {sc scope : Scope} {own : List (Str × Nat)} (frees : List Str) (h : blkF N scope own frees = true) (f : Frs sc frees) : BlkOk N sc scope own := by
  unfold blkF at h
  simp only [Bool.and_eq_true, List.all_eq_true, decide_eq_true_eq] at h
  obtain ⟨⟨⟨h1, h2⟩, h3⟩, h4⟩ := h
  refine ⟨?_, h2, h3, fun y hy e => ?_, fun y hy e => ?_⟩
  · split at h1
    · assumption
    · cases h1
  · have q := h4 y hy
    simp only [e, decide_eq_true_eq] at q
    exact frs_mem f q
  · have q := h4 y hy
    rcases e with e | e <;> (simp only [e, Bool.or_eq_true, decide_eq_true_eq] at q; exact q)
/-! ### the hook -/
def hookM (n : Nat) (fa : List He.Fa) (fn : List He.DefD) (ex : PySem.W.Frag → Bool) : PySem.W.Hook where
  α := He.AlD × Bool
  obs := fun s => (He.obsDG n fa fn s.heap.get?, ex (He.frG s.heap.get? (He.asD s.heap.get? n)))
  val := fun _ => (He.valD fn, true)
  says := fun _ h => ∃ K : PySem.W.Frag, K.In h ∧ He.SaysD fa fn K ∧ ex K = true
  of := fun _ _ e => ⟨_, He.frG_in, congrArg Prod.fst e, congrArg Prod.snd e⟩
  keeps := fun _ _ _ ⟨K, hK, c⟩ k => ⟨K, PySem.W.Frag.In.keeps hK k, c⟩
def obM (n : Nat) (fa : List He.Fa) (fn : List He.DefD) (ex : PySem.W.Frag → Bool) (g : Addr → Option Obj) : He.AlD × Bool := (He.obsDG n fa fn g, ex (He.frG g (He.asD g n)))
theorem obM_eq {n : Nat} {fa : List He.Fa} {fn : List He.DefD} {ex : PySem.W.Frag → Bool} {g : Addr → Option Obj} {s : Shared} (h : ∀ a, g a = s.heap.get? a) : obM n fa fn ex g = (hookM n fa fn ex).obs s := by
  have e : g = s.heap.get? := funext h
  rw [e] <;> rfl
end Mn
namespace Mn
open PySem PySem.Spec PyProof.Rows L2
section
variable {X : Cx} {W : WX} {pin : Bool} {st : Stmt} {e : Expr}
/-- never reached -/
def mNever {α : Type} : EV α := fun _ => none
theorem js_never : JS X W pin st mNever := ⟨fun pins s σ H D I h => by
  obtain ⟨S0, S, μ, r, h⟩ := h
  exact h.elim⟩
end
end Mn
end
section
/-! Mn: the rules by which a meaning is run (simp only). -/
namespace Mn
section
variable {α β : Type} {μ : M} {i n : Nat} {d : D}
theorem giv_a {x : α} : giv x μ = some (.ok x, μ) := Eq.trans rfl rfl
theorem opt_a {x : Option α} : opt x μ = op' μ x := Eq.trans rfl rfl
theorem mSeq_a {a b : MS} : mSeq a b μ = sq b (a μ) := Eq.trans rfl rfl
theorem mIf_a {t : EV Bool} {a b : EV α} : mIf t a b μ = Rs (t μ) fun k => cond k a b := Eq.trans rfl rfl
theorem mB_a {a : EV D} : mB a μ = Rs (a μ) fun x => opt (asB x) := Eq.trans rfl rfl
theorem mT_a {a : EV D} : mT a μ = Rs (a μ) fun x => opt (truth x) := Eq.trans rfl rfl
theorem m1_a {g : D → Option D} {a : EV D} : m1 g a μ = Rs (a μ) fun x => opt (g x) := Eq.trans rfl rfl
theorem mN_a {g : List D → Option D} {a : EV (List D)} : mN g a μ = Rs (a μ) fun x => opt (g x) := Eq.trans rfl rfl
theorem m2_a {g : D → D → Option D} {a b : EV D} : m2 g a b μ = Rs (a μ) fun x => bnd b fun y => opt (g x y) := Eq.trans rfl rfl
theorem mCh_a {g g' : D → D → Option D} {a b c : EV D} : mCh g g' a b c μ = Rs (a μ) fun x => bnd b fun y => bnd (opt (g x y)) (vB0 (bnd c fun w => opt (g' y w)) (giv (.bl false))) := Eq.trans rfl rfl
theorem mAnd_a {a b : EV Bool} : mAnd a b μ = Rs (a μ) fun k => cond k b (giv false) := Eq.trans rfl rfl
theorem mOr_a {a b : EV Bool} : mOr a b μ = Rs (a μ) fun k => cond k (giv true) b := Eq.trans rfl rfl
theorem vAnd_a {a b : EV D} : vAnd a b μ = Rs (a μ) (vB b (giv (.bl false))) := Eq.trans rfl rfl
theorem vOr_a {a b : EV D} : vOr a b μ = Rs (a μ) (vB (giv (.bl true)) b) := Eq.trans rfl rfl
theorem vNot_a {a : EV D} : vNot a μ = Rs (a μ) fun x => opt (gNot x) := Eq.trans rfl rfl
theorem vB_t {a b : EV D} : vB a b (.bl true) μ = a μ := Eq.trans rfl rfl
theorem vB_f {a b : EV D} : vB a b (.bl false) μ = b μ := Eq.trans rfl rfl
theorem vB0_t {a b : EV D} : vB0 a b (.bl true) μ = a μ := Eq.trans rfl rfl
theorem vB0_f {a b : EV D} : vB0 a b (.bl false) μ = b μ := Eq.trans rfl rfl
theorem cond_t {a b : EV α} : (cond true a b) μ = a μ := Eq.trans rfl rfl
theorem cond_f {a b : EV α} : (cond false a b) μ = b μ := Eq.trans rfl rfl
theorem unO_a {a : EV (D × Kd)} : unO a μ = Rs (a μ) fun dk => giv dk.1 := Eq.trans rfl rfl
theorem toO_a {a : EV D} : toO a μ = Rs (a μ) fun d => giv (d, .z) := Eq.trans rfl rfl
theorem mCall_a {f : Sem} {a : EV (List D)} : mCall f a μ = Rs (a μ) fun ds μ => cl μ (f ds) := Eq.trans rfl rfl
theorem has_a {a : EV α} : has i a μ = hs (a μ) μ[i]? := Eq.trans rfl rfl
theorem mCallIO_a {f : SemIO} {a : EV (List D)} : mCallIO i f a μ = hs (Rs (a μ) fun ds μ => cj i f ds μ μ[i]?) μ[i]? := Eq.trans rfl rfl
theorem aNil_a : aNil μ = some (.ok [], μ) := Eq.trans rfl rfl
theorem aCons_a {a : EV D} {r : EV (List D)} : aCons a r μ = Rs (a μ) fun x => bnd r fun xs => giv (x :: xs) := Eq.trans rfl rfl
theorem rdv_a : rdv i μ = rd i μ μ[i]? := Eq.trans rfl rfl
theorem mIxB_a {a : EV D} : mIxB i a μ = hs (Rs (a μ) fun j μ => bw μ (fun d => ixD d j) (brw μ i)) μ[i]? := Eq.trans rfl rfl
theorem mLenB_a : mLenB i μ = bw μ lenD (brw μ i) := Eq.trans rfl rfl
theorem mStIx_a {a b : EV D} : mStIx i a b μ = hs (Rs (a μ) fun d => bnd b fun j μ => ag (stL μ i j d)) μ[i]? := Eq.trans rfl rfl
theorem put_a {dk : D × Kd} : put i dk μ = if i < μ.length then some (.ok .nx, μ.set i (some dk)) else none := Eq.trans rfl rfl
theorem mSet_a {a : EV D} : mSet i a μ = Rs (a μ) fun x => put i (x, .z) := Eq.trans rfl rfl
theorem mSetO_a {a : EV (D × Kd)} : mSetO i a μ = Rs (a μ) fun x => put i x := Eq.trans rfl rfl
theorem mAug_a {g : D → D → Option D} {a : EV D} : mAug i g a μ = Rs (rdv i μ) fun x => bnd a fun y => bnd (opt (g x y)) fun z => put i (z, .z) := Eq.trans rfl rfl
theorem mRet_a {a : EV D} : mRet a μ = Rs (a μ) fun x => giv (.ret x .z) := Eq.trans rfl rfl
theorem mRetO_a {a : EV (D × Kd)} : mRetO a μ = Rs (a μ) fun x => giv (.ret x.1 x.2) := Eq.trans rfl rfl
theorem mDrop_a {a : EV D} : mDrop a μ = Rs (a μ) fun _ => giv .nx := Eq.trans rfl rfl
theorem mRaise_a {e : Exn} : mRaise e μ = some (.exn e, μ) := Eq.trans rfl rfl
theorem mLstO_a {a : EV (List D)} : mLstO a μ = Rs (a μ) fun ds => opt (if ds.length ≤ 16777216 then some (.lst ds, .s .z) else none) := Eq.trans rfl rfl
theorem mPar_a {l : List Nat} {a : EV (List D)} : mPar l a μ = Rs (a μ) fun ds μ' => if l.length = ds.length ∧ l.all (fun j => decide (j < μ'.length)) = true then some (.ok .nx, (l.zip ds).foldl (fun μ q => μ.set q.1 (some (q.2, .z))) μ') else none := Eq.trans rfl rfl
theorem mFor_a {a : EV (List D)} {g : TgE} {b : MS} : mFor a g b μ = Rs (a μ) fun ds => mTurns g b ds := Eq.trans rfl rfl
theorem mTurns_n {g : TgE} {b : MS} : mTurns g b [] μ = some (.ok .nx, μ) := Eq.trans rfl rfl
theorem mTurns_c {g : TgE} {b : MS} {ds : List D} : mTurns g b (d :: ds) μ = tn b (mTurns g b ds) (g (d, .z) μ) := Eq.trans rfl rfl
theorem mWh_s {t : EV Bool} {b : MS} : mWh t b (n + 1) μ = Rs (t μ) fun k => cond k (fun μ => lp (b μ) (mWh t b n)) (giv .nx) := Eq.trans rfl rfl
theorem mRg_a {f : List D → Option (List D)} {a : EV (List D)} : mRg f a μ = Rs (a μ) fun ds => opt (f ds) := Eq.trans rfl rfl
theorem mIt_a {f : D → Option (List D)} {a : EV D} : mIt f a μ = Rs (a μ) fun d => opt (f d) := Eq.trans rfl rfl
theorem mAsg_a {a : EV D} {g : TgE} : mAsg a g μ = Rs (a μ) fun d μ => ag (g (d, .z) μ) := Eq.trans rfl rfl
/-! by what is known -/
theorem ixN_at {n : Nat} {i : Int} (h0 : 0 ≤ i) (h : i < n) : L2.ixN n i = some i.toNat := by
  unfold L2.ixN
  rw [if_pos h0, if_pos h]
theorem atI_at {xs : List D} {i : Int} (h0 : 0 ≤ i) (h : i < xs.length) : L2.atI xs i = xs[i.toNat]? := by
  unfold L2.atI
  rw [ixN_at h0 h]
  rfl
theorem ixN_k {n k : Nat} : L2.ixN n (OfNat.ofNat k : Int) = if k < n then some k else none := by
  show L2.ixN n ((k : Nat) : Int) = _
  unfold L2.ixN
  rw [if_pos (Int.natCast_nonneg k)]
  by_cases h : k < n
  · rw [if_pos h, if_pos (by omega), Int.toNat_natCast]
  · rw [if_neg h, if_neg (by omega)]
theorem atI_k {xs : List D} {k : Nat} : L2.atI xs (OfNat.ofNat k : Int) = xs[k]? := by
  unfold L2.atI
  rw [ixN_k]
  by_cases h : k < xs.length
  · rw [if_pos h]
    rfl
  · rw [if_neg h]
    exact (List.getElem?_eq_none (by omega)).symm
theorem atI_0 {xs : List D} : L2.atI xs 0 = xs[0]? := atI_k
theorem ixN_0 {n : Nat} : L2.ixN n 0 = if 0 < n then some 0 else none := ixN_k
theorem atI_1 {xs : List D} : L2.atI xs 1 = xs[1]? := atI_k
theorem ixN_1 {n : Nat} : L2.ixN n 1 = if 1 < n then some 1 else none := ixN_k
theorem atI_2 {xs : List D} : L2.atI xs 2 = xs[2]? := atI_k
theorem ixN_2 {n : Nat} : L2.ixN n 2 = if 2 < n then some 2 else none := ixN_k
theorem atI_3 {xs : List D} : L2.atI xs 3 = xs[3]? := atI_k
theorem ixN_3 {n : Nat} : L2.ixN n 3 = if 3 < n then some 3 else none := ixN_k
theorem atI_4 {xs : List D} : L2.atI xs 4 = xs[4]? := atI_k
theorem ixN_4 {n : Nat} : L2.ixN n 4 = if 4 < n then some 4 else none := ixN_k
theorem atI_5 {xs : List D} : L2.atI xs 5 = xs[5]? := atI_k
theorem ixN_5 {n : Nat} : L2.ixN n 5 = if 5 < n then some 5 else none := ixN_k
theorem atI_6 {xs : List D} : L2.atI xs 6 = xs[6]? := atI_k
theorem ixN_6 {n : Nat} : L2.ixN n 6 = if 6 < n then some 6 else none := ixN_k
theorem atI_7 {xs : List D} : L2.atI xs 7 = xs[7]? := atI_k
theorem ixN_7 {n : Nat} : L2.ixN n 7 = if 7 < n then some 7 else none := ixN_k
theorem atI_8 {xs : List D} : L2.atI xs 8 = xs[8]? := atI_k
theorem ixN_8 {n : Nat} : L2.ixN n 8 = if 8 < n then some 8 else none := ixN_k
theorem atI_9 {xs : List D} : L2.atI xs 9 = xs[9]? := atI_k
theorem ixN_9 {n : Nat} : L2.ixN n 9 = if 9 < n then some 9 else none := ixN_k
theorem atI_10 {xs : List D} : L2.atI xs 10 = xs[10]? := atI_k
theorem ixN_10 {n : Nat} : L2.ixN n 10 = if 10 < n then some 10 else none := ixN_k
theorem atI_11 {xs : List D} : L2.atI xs 11 = xs[11]? := atI_k
theorem ixN_11 {n : Nat} : L2.ixN n 11 = if 11 < n then some 11 else none := ixN_k
theorem atI_12 {xs : List D} : L2.atI xs 12 = xs[12]? := atI_k
theorem ixN_12 {n : Nat} : L2.ixN n 12 = if 12 < n then some 12 else none := ixN_k
theorem atI_13 {xs : List D} : L2.atI xs 13 = xs[13]? := atI_k
theorem ixN_13 {n : Nat} : L2.ixN n 13 = if 13 < n then some 13 else none := ixN_k
theorem atI_14 {xs : List D} : L2.atI xs 14 = xs[14]? := atI_k
theorem ixN_14 {n : Nat} : L2.ixN n 14 = if 14 < n then some 14 else none := ixN_k
theorem atI_15 {xs : List D} : L2.atI xs 15 = xs[15]? := atI_k
theorem ixN_15 {n : Nat} : L2.ixN n 15 = if 15 < n then some 15 else none := ixN_k
theorem atI_16 {xs : List D} : L2.atI xs 16 = xs[16]? := atI_k
theorem ixN_16 {n : Nat} : L2.ixN n 16 = if 16 < n then some 16 else none := ixN_k
theorem sq_nx {b : MS} : sq b (some (.ok .nx, μ)) = b μ := Eq.trans rfl rfl
theorem sq_ct {b : MS} : sq b (some (.ok .cont, μ)) = some (.ok .cont, μ) := Eq.trans rfl rfl
theorem sq_bk {b : MS} : sq b (some (.ok .brk, μ)) = some (.ok .brk, μ) := Eq.trans rfl rfl
theorem sq_rt {b : MS} {k : Kd} : sq b (some (.ok (.ret d k), μ)) = some (.ok (.ret d k), μ) := Eq.trans rfl rfl
theorem sq_ex {b : MS} {e : Exn} : sq b (some (.exn e, μ)) = some (.exn e, μ) := Eq.trans rfl rfl
theorem lp_nx {b : MS} : lp (some (.ok .nx, μ)) b = b μ := Eq.trans rfl rfl
theorem lp_ct {b : MS} : lp (some (.ok .cont, μ)) b = b μ := Eq.trans rfl rfl
theorem lp_bk {b : MS} : lp (some (.ok .brk, μ)) b = some (.ok .nx, μ) := Eq.trans rfl rfl
theorem lp_rt {b : MS} {k : Kd} : lp (some (.ok (.ret d k), μ)) b = some (.ok (.ret d k), μ) := Eq.trans rfl rfl
theorem lp_ex {b : MS} {e : Exn} : lp (some (.exn e, μ)) b = some (.exn e, μ) := Eq.trans rfl rfl
theorem tn_s {b c : MS} : tn b c (some μ) = lp (b μ) c := Eq.trans rfl rfl
theorem rd_z : rd i μ (some (some (d, .z))) = some (.ok d, μ) := Eq.trans rfl rfl
theorem rd_s {k : Kd} : rd i μ (some (some (d, .s k))) = some (.ok d, μ.set i (some (d, .z))) := Eq.trans rfl rfl
theorem hs_s {r : Option (Res α × M)} {o : D × Kd} : hs r (some (some o)) = r := Eq.trans rfl rfl
theorem cl_s {r : Res (D × Kd)} : cl μ (some r) = some (r, μ) := Eq.trans rfl rfl
theorem ci_s {r : Res (D × Kd)} {o : D × Kd} : ci i μ (some (r, o)) = some (r, μ.set i (some o)) := Eq.trans rfl rfl
theorem cj_s {f : SemIO} {ds : List D} {o : D × Kd} : cj i f ds μ (some (some o)) = ci i μ (f o ds) := Eq.trans rfl rfl
theorem bw_s {f : D → Option α} : bw μ f (some d) = op' μ (f d) := Eq.trans rfl rfl
theorem brw_a : brw μ i = br μ[i]? := Eq.trans rfl rfl
theorem br_z : br (some (some (d, .z))) = some d := Eq.trans rfl rfl
theorem br_l {ds : List D} : br (some (some (.lst ds, .s .z))) = some (.lst ds) := Eq.trans rfl rfl
theorem ownL_a : ownL μ i = ow μ[i]? := Eq.trans rfl rfl
theorem ow_l {ds : List D} : ow (some (some (.lst ds, .s .z))) = some ds := Eq.trans rfl rfl
theorem ag_s : ag (some μ) = some (.ok .nx, μ) := Eq.trans rfl rfl
theorem op_s {x : α} : op' μ (some x) = some (.ok x, μ) := Eq.trans rfl rfl
theorem asB_b {b : Bool} : asB (.bl b) = some b := Eq.trans rfl rfl
theorem asI_i {j : Int} : asI (.int j) = some j := Eq.trans rfl rfl
theorem stL_a {j e : D} : stL μ i j e = (ownL μ i).bind fun ds => (asI j).bind fun n => (L2.ixN ds.length n).map fun t => μ.set i (some (.lst (ds.set t e), .s .z)) := Eq.trans rfl rfl
theorem gN_a {o : D × Kd} : gN i o μ = if i < μ.length then some (μ.set i (some o)) else none := Eq.trans rfl rfl
theorem gAdd_a {a b : Int} : gAdd (.int a) (.int b) = some (.int (a + b)) := Eq.trans rfl rfl
theorem gSub_a {a b : Int} : gSub (.int a) (.int b) = some (.int (a - b)) := Eq.trans rfl rfl
theorem gXor_a {a b : Int} : gXor (.int a) (.int b) = some (.int (PySem.Builtin.bitXor a b)) := Eq.trans rfl rfl
theorem gAnd_a {a b : Int} : gAnd (.int a) (.int b) = some (.int (PySem.Builtin.bitAnd a b)) := Eq.trans rfl rfl
theorem gLt_a {a b : Int} : gLt (.int a) (.int b) = some (.bl (decide (a < b))) := Eq.trans rfl rfl
theorem gLe_a {a b : Int} : gLe (.int a) (.int b) = some (.bl (decide (a ≤ b))) := Eq.trans rfl rfl
theorem gGt_a {a b : Int} : gGt (.int a) (.int b) = some (.bl (decide (b < a))) := Eq.trans rfl rfl
theorem gGe_a {a b : Int} : gGe (.int a) (.int b) = some (.bl (decide (b ≤ a))) := Eq.trans rfl rfl
theorem gMul_a {a b : Int} : gMul (.int a) (.int b) = bif sm a || sm b then some (.int (a * b)) else none := Eq.trans rfl rfl
theorem gDiv_a {a b : Int} : gDiv (.int a) (.int b) = bif decide (0 < b) && lt30 b then some (.int (a / b)) else none := Eq.trans rfl rfl
theorem gMod_a {a b : Int} : gMod (.int a) (.int b) = bif decide (0 < b) then some (.int (a % b)) else none := Eq.trans rfl rfl
theorem gPow_a {a b : Int} : gPow (.int a) (.int b) = bif decide (0 ≤ b) && decide (b ≤ 1000000) && decide (a.natAbs < 18446744073709551616) then some (.int (a ^ b.toNat)) else none := Eq.trans rfl rfl
theorem gNeg_a {a : Int} : gNeg (.int a) = some (.int (-a)) := Eq.trans rfl rfl
theorem gNot_a {b : Bool} : gNot (.bl b) = some (.bl !b) := Eq.trans rfl rfl
theorem gEq_a {e : D} : gEq d e = (eqS d e).map fun b => .bl b := Eq.trans rfl rfl
theorem gNe_a {e : D} : gNe d e = (eqS d e).map fun b => .bl !b := Eq.trans rfl rfl
theorem eqS_i {a b : Int} : eqS (.int a) (.int b) = some (decide (a = b)) := Eq.trans rfl rfl
theorem eqS_b {a b : Bool} : eqS (.bl a) (.bl b) = some (decide (a = b)) := Eq.trans rfl rfl
theorem eqS_s {a b : List Nat} : eqS (.str a) (.str b) = some (decide (a = b)) := Eq.trans rfl rfl
theorem eqS_n : eqS .non .non = some true := Eq.trans rfl rfl
theorem eqS_ni {b : Int} : eqS .non (.int b) = some false := Eq.trans rfl rfl
theorem eqS_in {b : Int} : eqS (.int b) .non = some false := Eq.trans rfl rfl
theorem lenD_l {ds : List D} : lenD (.lst ds) = some (.int ds.length) := Eq.trans rfl rfl
theorem lenD_t {ds : List D} : lenD (.tup ds) = some (.int ds.length) := Eq.trans rfl rfl
theorem lenD_s {x : List Nat} : lenD (.str x) = if x.length ≤ 16777216 then some (.int x.length) else none := Eq.trans rfl rfl
theorem intD_i {a : Int} : intD (.int a) = some (.int a) := Eq.trans rfl rfl
theorem intD_b {b : Bool} : intD (.bl b) = some (.int (if b then 1 else 0)) := Eq.trans rfl rfl
theorem n1_a {f : D → Option D} : n1 f [d] = f d := Eq.trans rfl rfl
theorem lim_a {ds : List D} : lim ds d = if ds.length ≤ 16777216 then some d else none := Eq.trans rfl rfl
theorem ixD_l {ds : List D} {a : Int} : ixD (.lst ds) (.int a) = L2.atI ds a := Eq.trans rfl rfl
theorem ixD_t {ds : List D} {a : Int} : ixD (.tup ds) (.int a) = L2.atI ds a := Eq.trans rfl rfl
theorem truth_n : truth .non = some false := Eq.trans rfl rfl
theorem truth_b {b : Bool} : truth (.bl b) = some b := Eq.trans rfl rfl
theorem truth_i {a : Int} : truth (.int a) = some (a != 0) := Eq.trans rfl rfl
theorem truth_t {ds : List D} : truth (.tup ds) = some (!ds.isEmpty) := Eq.trans rfl rfl
theorem truth_l {ds : List D} : truth (.lst ds) = some (!ds.isEmpty) := Eq.trans rfl rfl
theorem isTy_ii {a : Int} : isTy .int (.int a) = true := Eq.trans rfl rfl
theorem isTy_ib {b : Bool} : isTy .int (.bl b) = true := Eq.trans rfl rfl
theorem isTy_in : isTy .int .non = false := Eq.trans rfl rfl
theorem isTy_is {x : List Nat} : isTy .int (.str x) = false := Eq.trans rfl rfl
theorem isTy_it {ds : List D} : isTy .int (.tup ds) = false := Eq.trans rfl rfl
theorem isTy_il {ds : List D} : isTy .int (.lst ds) = false := Eq.trans rfl rfl
theorem isTy_bi {a : Int} : isTy .bool (.int a) = false := Eq.trans rfl rfl
theorem isTy_bb {b : Bool} : isTy .bool (.bl b) = true := Eq.trans rfl rfl
theorem isTy_ss {x : List Nat} : isTy .str (.str x) = true := Eq.trans rfl rfl
theorem isTy_si {a : Int} : isTy .str (.int a) = false := Eq.trans rfl rfl
theorem isTy_sb {b : Bool} : isTy .str (.bl b) = false := Eq.trans rfl rfl
theorem isTy_sn : isTy .str .non = false := Eq.trans rfl rfl
theorem isTy_st {ds : List D} : isTy .str (.tup ds) = false := Eq.trans rfl rfl
theorem isTy_sl {ds : List D} : isTy .str (.lst ds) = false := Eq.trans rfl rfl
theorem isTy_tt {ds : List D} : isTy .tuple (.tup ds) = true := Eq.trans rfl rfl
theorem isTy_ti {a : Int} : isTy .tuple (.int a) = false := Eq.trans rfl rfl
theorem isTy_tb {b : Bool} : isTy .tuple (.bl b) = false := Eq.trans rfl rfl
theorem isTy_tn : isTy .tuple .non = false := Eq.trans rfl rfl
theorem isTy_ts {x : List Nat} : isTy .tuple (.str x) = false := Eq.trans rfl rfl
theorem isTy_tl {ds : List D} : isTy .tuple (.lst ds) = false := Eq.trans rfl rfl
theorem isTy_ll {ds : List D} : isTy .list (.lst ds) = true := Eq.trans rfl rfl
theorem isTy_li {a : Int} : isTy .list (.int a) = false := Eq.trans rfl rfl
theorem isTy_lb {b : Bool} : isTy .list (.bl b) = false := Eq.trans rfl rfl
theorem isTy_ln : isTy .list .non = false := Eq.trans rfl rfl
theorem isTy_ls {x : List Nat} : isTy .list (.str x) = false := Eq.trans rfl rfl
theorem isTy_lt {ds : List D} : isTy .list (.tup ds) = false := Eq.trans rfl rfl
theorem endsOf_r {k : Kd} : endsOf (some (.ok (.ret d k), μ)) = some (.ok (d, k)) := Eq.trans rfl rfl
theorem endsOf_n : endsOf (some (.ok .nx, μ)) = some (.ok (.non, .z)) := Eq.trans rfl rfl
theorem endsOf_e {e : Exn} : endsOf (some (.exn e, μ)) = some (.exn e) := Eq.trans rfl rfl
theorem endsIO_r {k : Kd} {o : D × Kd} : endsIO (some (.ok (.ret d k), some o :: μ)) = some (.ok (d, k), o) := Eq.trans rfl rfl
theorem endsIO_n {o : D × Kd} : endsIO (some (.ok .nx, some o :: μ)) = some (.ok (.non, .z), o) := Eq.trans rfl rfl
theorem endsIO_e {e : Exn} {o : D × Kd} : endsIO (some (.exn e, some o :: μ)) = some (.exn e, o) := Eq.trans rfl rfl
theorem rng1_a {j : Int} : rng1 [.int j] = bif inR j then some (rangeD 0 j) else none := Eq.trans rfl rfl
theorem rng2_a {j k : Int} : rng2 [.int j, .int k] = bif inR j && inR k then some (rangeD j k) else none := Eq.trans rfl rfl
/-! the turns of a for by what a turn does -/
theorem turns_fold {S : Type} {g : TgE} {b : MS} {enc : S → M} {step : S → D → S} {ok : S → Prop} : ∀ (ds : List D) (s : S), ok s →
    (∀ s d, ok s → d ∈ ds → ok (step s d) ∧ ∃ μ1, g (d, .z) (enc s) = some μ1 ∧ (b μ1 = some (.ok .nx, enc (step s d)) ∨ b μ1 = some (.ok .cont, enc (step s d)))) →
    mTurns g b ds (enc s) = some (.ok .nx, enc (ds.foldl step s)) ∧ ok (ds.foldl step s)
  | [], s, h, _ => ⟨rfl, h⟩
  | d :: ds, s, h, hs => by
    obtain ⟨h1, μ1, e1, e2⟩ := hs s d h List.mem_cons_self
    have ih := turns_fold (g := g) (b := b) (enc := enc) (step := step) (ok := ok) ds (step s d) h1 fun s d' q m => hs s d' q (List.mem_cons_of_mem _ m)
    refine ⟨?_, ih.2⟩
    rw [mTurns_c, e1]
    rcases e2 with e2 | e2
    · show lp (b μ1) _ = _
      rw [e2]
      exact ih.1
    · show lp (b μ1) _ = _
      rw [e2]
      exact ih.1
/-- .. by an invariant -/
theorem turns_inv {g : TgE} {b : MS} {I : M → Prop} : ∀ (ds : List D) (μ : M), I μ →
    (∀ μ d, I μ → d ∈ ds → ∃ μ1, g (d, .z) μ = some μ1 ∧ ∃ μ2, I μ2 ∧ (b μ1 = some (.ok .nx, μ2) ∨ b μ1 = some (.ok .cont, μ2))) →
    ∃ μ2, mTurns g b ds μ = some (.ok .nx, μ2) ∧ I μ2
  | [], μ, h, _ => ⟨μ, rfl, h⟩
  | d :: ds, μ, h, hs => by
    obtain ⟨μ1, e1, μ2, h2, e2⟩ := hs μ d h List.mem_cons_self
    obtain ⟨μ3, e3, h3⟩ := turns_inv (g := g) (b := b) (I := I) ds μ2 h2 fun μ d' q m => hs μ d' q (List.mem_cons_of_mem _ m)
    refine ⟨μ3, ?_, h3⟩
    rw [mTurns_c, e1]
    rcases e2 with e2 | e2
    · show lp (b μ1) _ = _
      rw [e2]
      exact e3
    · show lp (b μ1) _ = _
      rw [e2]
      exact e3
end
end Mn
end
section
/-! Mn: the rules for the wider operations; what comprehensions and loops come to. -/
namespace Mn
open PySem
section
variable {α β : Type} {μ : M} {i n : Nat} {d : D}
theorem mLc_a {it : EV (List D)} {vs : List Nat} {g : TgE} {t : EV Bool} {e : EV D} : mLc it vs g t e μ = Rs (it μ) fun ds => fun μ => bif decide (ds.length ≤ 16777216) then lcW vs μ (lcT vs g t e ds (wp vs μ)) else none := Eq.trans rfl rfl
theorem mItA_a {f : List D → Option (List D)} {m : EV (List D)} : mItA f m μ = Rs (m μ) fun ds => opt (f ds) := Eq.trans rfl rfl
theorem hasL_a {a : EV α} : hasL i a μ = (ownL μ i).bind fun _ => a μ := Eq.trans rfl rfl
theorem mUp1_a {f : D → List D → Option (D × List D)} {m : EV D} : mUp1 i f m μ = hasL i (bnd m fun d => fun μ => upL i μ (f d)) μ := Eq.trans rfl rfl
theorem mSl_a {m : EV D} {l h : EV (Option Int)} : mSl m l h μ = Rs (m μ) fun d => bnd l fun i => bnd h fun j => opt (gSl d i j) := Eq.trans rfl rfl
theorem mPart_a {m : EV D} : mPart m μ = Rs (m μ) fun d => opt (asI2 d) := Eq.trans rfl rfl
theorem mJoin_a {a b : EV D} : mJoin a b μ = Rs (a μ) fun d => bnd (opt (asStr d)) fun x => bnd b fun y => opt (gJoin x y) := Eq.trans rfl rfl
theorem mDispO_a {ps : List (EV D × EV D)} : mDispO ps μ = RsQ (mPairs ps μ) fun p μ' => op' μ' (bif okDisp p then some (.dct p.1 p.2, .s .z) else none) := Eq.trans rfl rfl
theorem mPairs_n : mPairs [] μ = some (.ok ([], []), μ) := Eq.trans rfl rfl
theorem mPairs_c {k v : EV D} {r : List (EV D × EV D)} : mPairs ((k, v) :: r) μ = Rs (k μ) fun x => bnd v fun y => bnd (mPairs r) fun p => giv (x :: p.1, y :: p.2) := Eq.trans rfl rfl
theorem mListO_a {ms : EV (List D)} : mListO ms μ = Rs (ms μ) fun ds => opt ((n1 gLst ds).map fun d => (d, .s .z)) := Eq.trans rfl rfl
theorem mRepL_a {ms : EV (List D)} {m : EV D} : mRepL ms m μ = Rs (ms μ) fun ds => bnd (opt (lim ds .non)) fun _ => bnd m fun y => opt (gRepL ds y) := Eq.trans rfl rfl
theorem sole_a {f : D → Option (List D)} : sole f [d] = f d := Eq.trans rfl rfl
theorem enumF_a : enumF d = (itemsD d).map enumD := Eq.trans rfl rfl
theorem itemsD_l {ds : List D} : itemsD (.lst ds) = some ds := Eq.trans rfl rfl
theorem itemsD_t {ds : List D} : itemsD (.tup ds) = some ds := Eq.trans rfl rfl
theorem itemsD_s {x : List Nat} : itemsD (.str x) = some (x.map fun c => .str [c]) := Eq.trans rfl rfl
theorem zipF_l {xs ys : List D} : zipF [.lst xs, .lst ys] = some (zipD xs ys) := Eq.trans rfl rfl
theorem zipF_t {xs ys : List D} : zipF [.tup xs, .tup ys] = some (zipD xs ys) := Eq.trans rfl rfl
theorem upL_a {f : List D → Option (α × List D)} : upL i μ f = (ownL μ i).bind fun ds => (f ds).bind fun c => some (.ok c.1, μ.set i (some (.lst c.2, .s .z))) := Eq.trans rfl rfl
theorem fApp_a {ds : List D} : fApp d ds = if ds.length < 16777216 then some (.non, ds ++ [d]) else none := Eq.trans rfl rfl
theorem asI2_i {j : Int} : asI2 (.int j) = some (some j) := Eq.trans rfl rfl
theorem gSl_l {ds : List D} {lo hi : Option Int} : gSl (.lst ds) lo hi = some (.lst (cut ds lo hi)) := Eq.trans rfl rfl
theorem gSl_t {ds : List D} {lo hi : Option Int} : gSl (.tup ds) lo hi = some (.tup (cut ds lo hi)) := Eq.trans rfl rfl
theorem gSl_s {x : List Nat} {lo hi : Option Int} : gSl (.str x) lo hi = bif decide (x.length ≤ 16777216) then some (.str (cut x lo hi)) else none := Eq.trans rfl rfl
theorem gAddX_i {a b : Int} : gAddX (.int a) (.int b) = some (.int (a + b)) := Eq.trans rfl rfl
theorem gAddX_s {x y : List Nat} : gAddX (.str x) (.str y) = bif decide (x.length + y.length ≤ 16777216) then some (.str (x ++ y)) else none := Eq.trans rfl rfl
theorem gAddX_t {x y : List D} : gAddX (.tup x) (.tup y) = bif decide (x.length + y.length ≤ 16777216) then some (.tup (x ++ y)) else none := Eq.trans rfl rfl
theorem gAddX_l {x y : List D} : gAddX (.lst x) (.lst y) = bif decide (x.length + y.length ≤ 16777216) then some (.lst (x ++ y)) else none := Eq.trans rfl rfl
theorem gMulX_i {a b : Int} : gMulX (.int a) (.int b) = bif sm a || sm b then some (.int (a * b)) else none := Eq.trans rfl rfl
theorem gMulX_s {x : List Nat} {k : Int} : gMulX (.str x) (.int k) = bif inR k && decide (x.length * k.toNat ≤ 16777216) then some (.str (List.replicate k.toNat x).flatten) else none := Eq.trans rfl rfl
theorem gMulX_t {x : List D} {k : Int} : gMulX (.tup x) (.int k) = bif decide (2 ≤ k) && decide (k ≤ 1000) && decide (1 ≤ x.length) && decide (x.length ≤ 1000) then some (.tup (List.replicate k.toNat x).flatten) else none := Eq.trans rfl rfl
theorem gRepL_a {ds : List D} {k : Int} : gRepL ds (.int k) = bif inR k && decide (ds.length * k.toNat ≤ 16777216) then some (.lst (List.replicate k.toNat ds).flatten) else none := Eq.trans rfl rfl
theorem ixX_l {ds : List D} {a : Int} : ixX (.lst ds) (.int a) = L2.atI ds a := Eq.trans rfl rfl
theorem ixX_t {ds : List D} {a : Int} : ixX (.tup ds) (.int a) = L2.atI ds a := Eq.trans rfl rfl
theorem ixX_s {x : List Nat} {a : Int} : ixX (.str x) (.int a) = if x.length ≤ 16777216 then (L2.atI x a).map (fun c => .str [c]) else none := Eq.trans rfl rfl
theorem ixD_s {x : List Nat} {a : Int} : ixD (.str x) (.int a) = if x.length ≤ 16777216 then (L2.atI x a).map (fun c => .str [c]) else none := Eq.trans rfl rfl
theorem gEqX_a {e : D} : gEqX d e = (eqX d e).map fun b => .bl b := Eq.trans rfl rfl
theorem gNeX_a {e : D} : gNeX d e = (eqX d e).map fun b => .bl !b := Eq.trans rfl rfl
theorem eqX_i {a b : Int} : eqX (.int a) (.int b) = some (decide (a = b)) := Eq.trans rfl rfl
theorem eqX_b {a b : Bool} : eqX (.bl a) (.bl b) = some (decide (a = b)) := Eq.trans rfl rfl
theorem eqX_s {a b : List Nat} : eqX (.str a) (.str b) = some (decide (a = b)) := Eq.trans rfl rfl
theorem eqX_n : eqX .non .non = some true := Eq.trans rfl rfl
theorem eqX_ni {b : Int} : eqX .non (.int b) = some false := Eq.trans rfl rfl
theorem eqX_in {b : Int} : eqX (.int b) .non = some false := Eq.trans rfl rfl
theorem eqX_t {a b : List D} : eqX (.tup a) (.tup b) = bif okD 8 (.tup a) && okD 8 (.tup b) then some (deq (.tup a) (.tup b)) else none := Eq.trans rfl rfl
theorem eqX_l {a b : List D} : eqX (.lst a) (.lst b) = bif okD 8 (.lst a) && okD 8 (.lst b) then some (deq (.lst a) (.lst b)) else none := Eq.trans rfl rfl
theorem gIn_a {e : D} : gIn d e = (gInX d e).map fun b => .bl b := Eq.trans rfl rfl
theorem gNotIn_a {e : D} : gNotIn d e = (gInX d e).map fun b => .bl !b := Eq.trans rfl rfl
theorem gInX_s {x z : List Nat} : gInX (.str x) (.str z) = sgnIn z (.str x) := Eq.trans rfl rfl
theorem sgnIn_a {c : Nat} {z : List Nat} : sgnIn z (.str [c]) = some (decide (c ∈ z)) := Eq.trans rfl rfl
theorem gInX_t {ds : List D} : gInX d (.tup ds) = bif flatD d && ds.all flatD then some (ds.any fun y => flatEq y d) else none := Eq.trans rfl rfl
theorem gInX_l {ds : List D} : gInX d (.lst ds) = bif flatD d && ds.all flatD then some (ds.any fun y => flatEq y d) else none := Eq.trans rfl rfl
theorem gIsN_a : gIsN d .non = some (.bl (isNon d)) := Eq.trans rfl rfl
theorem gNotN_a : gNotN d .non = some (.bl !isNon d) := Eq.trans rfl rfl
theorem isNon_n : isNon .non = true := Eq.trans rfl rfl
theorem isNon_i {a : Int} : isNon (.int a) = false := Eq.trans rfl rfl
theorem isNon_t {ds : List D} : isNon (.tup ds) = false := Eq.trans rfl rfl
theorem isNon_l {ds : List D} : isNon (.lst ds) = false := Eq.trans rfl rfl
theorem isNon_s {x : List Nat} : isNon (.str x) = false := Eq.trans rfl rfl
theorem asStr_a {x : List Nat} : asStr (.str x) = some x := Eq.trans rfl rfl
theorem gJoin_l {x : List Nat} {ds : List D} : gJoin x (.lst ds) = joinD x ds := Eq.trans rfl rfl
theorem gJoin_t {x : List Nat} {ds : List D} : gJoin x (.tup ds) = joinD x ds := Eq.trans rfl rfl
theorem gSum_a {ds : List D} : gSum (.lst ds) = (asInts ds).map fun ns => .int ns.sum := Eq.trans rfl rfl
theorem gAll_a {ds : List D} : gAll (.lst ds) = (asBools ds).map fun bs => .bl (bs.all id) := Eq.trans rfl rfl
theorem gMax2_a {a b : Int} : gMax2 [.int a, .int b] = some (.int (if b > a then b else a)) := Eq.trans rfl rfl
theorem gMin2_a {a b : Int} : gMin2 [.int a, .int b] = some (.int (if b < a then b else a)) := Eq.trans rfl rfl
theorem gAbs_a {a : Int} : gAbs (.int a) = some (.int (if a < 0 then -a else a)) := Eq.trans rfl rfl
theorem gTup_l {ds : List D} : gTup (.lst ds) = some (.tup ds) := Eq.trans rfl rfl
theorem gTup_t {ds : List D} : gTup (.tup ds) = some (.tup ds) := Eq.trans rfl rfl
theorem gLst_l {ds : List D} : gLst (.lst ds) = some (.lst ds) := Eq.trans rfl rfl
theorem gLst_t {ds : List D} : gLst (.tup ds) = some (.lst ds) := Eq.trans rfl rfl
theorem gRev_t {ds : List D} : gRev (.tup ds) = some (.tup ds.reverse) := Eq.trans rfl rfl
theorem gRev_l {ds : List D} : gRev (.lst ds) = some (.lst ds.reverse) := Eq.trans rfl rfl
theorem gRev_s {x : List Nat} : gRev (.str x) = bif decide (x.length ≤ 16777216) then some (.str x.reverse) else none := Eq.trans rfl rfl
theorem lcW_a {vs : List Nat} {ds : List D} {μ' : M} : lcW vs μ (some (.ok ds, μ')) = some (.ok (.lst ds, .s .z), wp vs μ') := Eq.trans rfl rfl
theorem isTy_ds {x : List Nat} : isTy .dict (.str x) = false := Eq.trans rfl rfl
end
/-- a comprehension whose turns leave the slots as they are -/
theorem lc_filter {vs : List Nat} {g : TgE} {t : EV Bool} {e : EV D} {μ0 : M} (p : D → Bool) (f : D → D) : ∀ ds : List D,
    (∀ d ∈ ds, ∃ μ1, g (d, .z) μ0 = some μ1 ∧ ∃ μ2, t μ1 = some (.ok (p d), μ2) ∧ (p d = false → wp vs μ2 = μ0) ∧ (p d = true → ∃ μ3, e μ2 = some (.ok (f d), μ3) ∧ wp vs μ3 = μ0)) →
    lcT vs g t e ds μ0 = some (.ok ((ds.filter p).map f), μ0)
  | [], _ => rfl
  | d :: ds, h => by
    obtain ⟨μ1, e1, μ2, e2, h1, h2⟩ := h d List.mem_cons_self
    have ih := lc_filter (vs := vs) (g := g) (t := t) (e := e) (μ0 := μ0) p f ds fun d' m => h d' (List.mem_cons_of_mem _ m)
    rw [lcT_cons, e1, lg_s, e2, RsQ_ok]
    cases q : p d with
    | false =>
      rw [List.filter_cons_of_neg (by rw [q]; exact Bool.false_ne_true)]
      show lcT vs g t e ds (wp vs μ2) = _
      rw [h1 q]
      exact ih
    | true =>
      obtain ⟨μ3, e3, e4⟩ := h2 q
      rw [List.filter_cons_of_pos q]
      show RsQ (e μ2) _ = _
      rw [e3, RsQ_ok, e4, ih, RsQ_ok]
      rfl
theorem lc_map {vs : List Nat} {g : TgE} {e : EV D} {μ0 : M} (f : D → D) (ds : List D) (h : ∀ d ∈ ds, ∃ μ1, g (d, .z) μ0 = some μ1 ∧ ∃ μ3, e μ1 = some (.ok (f d), μ3) ∧ wp vs μ3 = μ0) :
    lcT vs g (giv true) e ds μ0 = some (.ok (ds.map f), μ0) := by
  have := lc_filter (vs := vs) (g := g) (t := giv true) (e := e) (μ0 := μ0) (fun _ => true) f ds fun d m => by
    obtain ⟨μ1, e1, μ3, e3, e4⟩ := h d m
    exact ⟨μ1, e1, μ1, rfl, (fun z => by cases z), fun _ => ⟨μ3, e3, e4⟩⟩
  rw [this]
  congr 3
  rw [List.filter_eq_self.mpr fun _ _ => rfl]
/-- .. that change them: by an invariant -/
theorem lc_inv {vs : List Nat} {g : TgE} {e : EV D} {I : M → Prop} {P : D → Prop} : ∀ (ds : List D) (μ : M), I μ → (∀ μ d, I μ → d ∈ ds → ∃ μ1, g (d, .z) μ = some μ1 ∧ ∃ x μ3, e μ1 = some (.ok x, μ3) ∧ P x ∧ I (wp vs μ3)) →
    ∃ xs μ', lcT vs g (giv true) e ds μ = some (.ok xs, μ') ∧ I μ' ∧ xs.length = ds.length ∧ ∀ x ∈ xs, P x
  | [], μ, h, _ => ⟨[], μ, rfl, h, rfl, fun _ z => nomatch z⟩
  | d :: ds, μ, h, hs => by
    obtain ⟨μ1, e1, x, μ3, e3, px, h3⟩ := hs μ d h List.mem_cons_self
    obtain ⟨xs, μ', e4, h4, l4, p4⟩ := lc_inv (vs := vs) (g := g) (e := e) (I := I) (P := P) ds (wp vs μ3) h3 fun μ d' q m => hs μ d' q (List.mem_cons_of_mem _ m)
    refine ⟨x :: xs, μ', ?_, h4, by rw [List.length_cons, List.length_cons, l4], fun y hy => ?_⟩
    · rw [lcT_cons, e1, lg_s]
      show RsQ (e μ1) _ = _
      rw [e3, RsQ_ok, e4, RsQ_ok]
    · rcases List.mem_cons.mp hy with z | z
      · rw [z]
        exact px
      · exact p4 y z
/-- the turns over what is counted, by place -/
theorem turns_at {g : TgE} {b : MS} (I : Nat → M → Prop) : ∀ (ds : List D) (k : Nat) (μ : M), I k μ → (∀ j d μ, I (k + j) μ → ds[j]? = some d → ∃ μ1, g (d, .z) μ = some μ1 ∧ ∃ μ2, I (k + j + 1) μ2 ∧ (b μ1 = some (.ok .nx, μ2) ∨ b μ1 = some (.ok .cont, μ2))) →
    ∃ μ2, mTurns g b ds μ = some (.ok .nx, μ2) ∧ I (k + ds.length) μ2
  | [], k, μ, h, _ => ⟨μ, rfl, h⟩
  | d :: ds, k, μ, h, hs => by
    obtain ⟨μ1, e1, μ2, h2, e2⟩ := hs 0 d μ h rfl
    obtain ⟨μ3, e3, h3⟩ := turns_at (g := g) (b := b) I ds (k + 1) μ2 h2 fun j d' μ q m => by
      have e : k + 1 + j = k + (j + 1) := by omega
      rw [e] at q ⊢
      exact hs (j + 1) d' μ q (by simpa using m)
    refine ⟨μ3, ?_, by rw [List.length_cons]; have e : k + (ds.length + 1) = k + 1 + ds.length := by omega
                       rw [e]; exact h3⟩
    rw [mTurns_c, e1]
    rcases e2 with e2 | e2
    · show lp (b μ1) _ = _
      rw [e2]
      exact e3
    · show lp (b μ1) _ = _
      rw [e2]
      exact e3
theorem turns_enum {g : TgE} {b : MS} (I : Nat → M → Prop) (ds : List D) (μ : M) (h : I 0 μ) (hs : ∀ j d μ, I j μ → ds[j]? = some d → ∃ μ1, g (.tup [.int (j : Nat), d], .z) μ = some μ1 ∧ ∃ μ2, I (j + 1) μ2 ∧ (b μ1 = some (.ok .nx, μ2) ∨ b μ1 = some (.ok .cont, μ2))) :
    ∃ μ2, mTurns g b (enumD ds) μ = some (.ok .nx, μ2) ∧ I ds.length μ2 := by
  obtain ⟨μ2, e, q⟩ := turns_at (g := g) (b := b) I (enumD ds) 0 μ h fun j d μ q m => by
    obtain ⟨x, m', e⟩ := enumD_get m
    subst e
    rw [Nat.zero_add] at q ⊢
    exact hs j x μ q m'
  refine ⟨μ2, e, ?_⟩
  rw [enumD_len, Nat.zero_add] at q
  exact q
theorem turns_range {g : TgE} {b : MS} (I : Nat → M → Prop) (lo : Int) (n : Nat) (μ : M) (h : I 0 μ) (hs : ∀ j μ, I j μ → j < n → ∃ μ1, g (.int (lo + j), .z) μ = some μ1 ∧ ∃ μ2, I (j + 1) μ2 ∧ (b μ1 = some (.ok .nx, μ2) ∨ b μ1 = some (.ok .cont, μ2))) :
    ∃ μ2, mTurns g b (rangeD lo (lo + n)) μ = some (.ok .nx, μ2) ∧ I n μ2 := by
  have el : (rangeD lo (lo + n)) = (List.range n).map fun (k : Nat) => D.int (lo + k) := by
    unfold rangeD
    have : (lo + n - lo).toNat = n := by omega
    rw [this]
  obtain ⟨μ2, e, q⟩ := turns_at (g := g) (b := b) I (rangeD lo (lo + n)) 0 μ h fun j d μ q m => by
    rw [el, List.getElem?_map] at m
    by_cases hj : j < n
    · rw [List.getElem?_range hj] at m
      cases m
      rw [Nat.zero_add] at q ⊢
      exact hs j μ q hj
    · rw [List.getElem?_eq_none (by simpa using hj)] at m
      cases m
  refine ⟨μ2, e, ?_⟩
  rw [el, List.length_map, List.length_range, Nat.zero_add] at q
  exact q

end Mn
end
section
/-! Mn: dict(enumerate(e)), e a list, a tuple, a text. -/
namespace Mn
open PySem PySem.Spec PyProof.Rows L2
section
variable {prog : Program} {w : World} {A : Around} {E : Value → Shared → Prop} {s : Shared}
/-- the next pair while the one before is still held: what draws is whatever -/
theorem held_body {e it T : Addr} {fp : List Addr} {n i : Nat} {P : Nat → Value → Prop} {St : Nat → Heap → Prop} {old : Value} {f : Bool} {oT : Obj} {Q : Value → Shared → Prop}
    (D : Draws prog w A it fp n P St) (he : IsEnumHeld s.heap e it (i : Nat) old T f) (hT : s.heap.get? T = some oT) (hTe : T ≠ e) (hTi : T ≠ it) (hst : St i s.heap) (hlt : i < n) (hne : e ≠ it) (hef : e ∉ fp)
    (hQ : ∀ x h' tk, P i x → IsEnumHeld h' e it ((i : Int) + 1) old T true → St (i + 1) h' →
      h'.get? s.heap.objs.size = some { cls := .type "tuple", data := .seq #[.int i tk, x] } → (∀ b o, b ≠ e → b ≠ it → s.heap.get? b = some o → h'.get? b = some o) → Q (.ref s.heap.objs.size) { s with heap := h', toks := tk + 1 }) :
    wpAny (model prog w) A (Builtin.«enumerate.__next__» ⟨[.ref e], []⟩) (fun fin s' => ∃ v, fin = .done (.ret v) ∧ Q v s') E s := by
  obtain ⟨hp, g, d, tk₀, os⟩ := s
  show wpAny _ _ (field (.ref e) 2 >>= _) _ _ _
  refine wpAny_bind (wpAny_field he rfl (x := .ref it) rfl ?_)
  refine wpAny_bind (D.item i _ _ _ hlt hst fun x h1 tk px st1 k1 => ?_)
  replace k1 : Heap.SameBut it hp h1 := k1
  have e1 : IsEnumHeld h1 e it (i : Nat) old T f := (k1.2 e hne).trans he
  show wpAny _ _ (field (.ref e) 3 >>= _) _ _ ⟨h1, g, d, tk, os⟩
  refine wpAny_bind (wpAny_field e1 rfl (x := rawInt i) rfl ?_)
  show wpAny _ _ (field (.ref e) 4 >>= _) _ _ ⟨h1, g, d, tk, os⟩
  refine wpAny_bind (wpAny_field e1 rfl (x := .none) rfl ?_)
  show wpAny _ _ (mkInt i >>= _) _ _ ⟨h1, g, d, tk, os⟩
  refine wpAny_bind (wpAny_mkInt ?_)
  show wpAny _ _ (setField (.ref e) 3 (rawInt ((i : Int) + 1)) >>= _) _ _ ⟨h1, g, d, tk + 1, os⟩
  refine wpAny_bind (wpAny_setField_rec e1 (by simp) fun h2 e2 k2 => ?_)
  replace k2 : Heap.SameBut e h1 h2 := k2
  replace e2 : IsEnumHeld h2 e it ((i : Int) + 1) old T f := e2
  show wpAny _ _ (setField (.ref e) 4 .none >>= _) _ _ ⟨h2, g, d, tk + 1, os⟩
  refine wpAny_bind (wpAny_setField_rec e2 (by simp) fun h3 e3 k3 => ?_)
  replace k3 : Heap.SameBut e h2 h3 := k3
  replace e3 : IsEnumHeld h3 e it ((i : Int) + 1) old T f := e3
  show wpAny _ _ (newTuple [.int i tk, x] >>= _) _ _ ⟨h3, g, d, tk + 1, os⟩
  refine wpAny_bind (wpAny_newTuple ?_)
  have sz : h3.objs.size = hp.objs.size := by rw [k3.1, k2.1, k1.1]
  have el : e < hp.objs.size := Heap.lt_size he
  have push : ∀ {b : Addr} {o : Obj}, h3.get? b = some o → (h3.push { cls := .type "tuple", data := .seq #[.int i tk, x] }).get? b = some o := fun q => Heap.get?_push_of_some _ q
  have e4 : IsEnumHeld (h3.push { cls := .type "tuple", data := .seq #[.int i tk, x] }) e it ((i : Int) + 1) old T f := push e3
  have t4 : (h3.push { cls := .type "tuple", data := .seq #[.int i tk, x] }).get? hp.objs.size = some { cls := .type "tuple", data := .seq #[.int i tk, x] } := by
    rw [← sz]
    exact Heap.get?_push_size _ rfl
  have k4 : ∀ b o, b ≠ e → b ≠ it → hp.get? b = some o → (h3.push { cls := .type "tuple", data := .seq #[.int i tk, x] }).get? b = some o := fun b o n1 n2 q => push (k3.extBut b o n1 (k2.extBut b o n1 (k1.extBut b o n2 q)))
  have st4 : St (i + 1) (h3.push { cls := .type "tuple", data := .seq #[.int i tk, x] }) := D.frame _ _ _ st1 fun b hb o q => by
    have n1 : b ≠ e := fun z => hef (z ▸ hb)
    exact push (k3.extBut b o n1 (k2.extBut b o n1 q))
  show wpAny _ _ (Builtin.SmallTypes.ownedTupleIsFree (.ref e) >>= _) _ _ ⟨h3.push { cls := .type "tuple", data := .seq #[.int i tk, x] }, g, d, tk + 1, os⟩
  rw [sz]
  refine wpAny_bind (wpAny_tupleHeld_enum (s := ⟨h3.push { cls := .type "tuple", data := .seq #[.int i tk, x] }, g, d, tk + 1, os⟩) e4 (k4 T oT hTe hTi hT) fun h5 e5 k5 => ?_)
  replace k5 : Heap.SameBut e (h3.push { cls := .type "tuple", data := .seq #[.int i tk, x] }) h5 := k5
  simp only [Bool.false_eq_true, if_false]
  exact wpAny_pure ⟨_, rfl, hQ x h5 tk px e5 (D.frame _ _ _ st4 fun b hb o q => k5.extBut b o (fun z => hef (z ▸ hb)) q) (k5.extBut _ _ (Nat.ne_of_gt el) t4) fun b o n1 n2 q => k5.extBut b o n1 (k4 b o n1 n2 q)⟩
theorem held_next {e it T : Addr} {fp : List Addr} {n i : Nat} {P : Nat → Value → Prop} {St : Nat → Heap → Prop} {old : Value} {f : Bool} {oT : Obj} {Q : Option Value → Shared → Prop}
    (D : Draws prog w A.in1 it fp n P St) (he : IsEnumHeld s.heap e it (i : Nat) old T f) (hT : s.heap.get? T = some oT) (hTe : T ≠ e) (hTi : T ≠ it) (hst : St i s.heap) (hlt : i < n) (hne : e ≠ it) (hef : e ∉ fp)
    (hQ : ∀ x h' tk, P i x → IsEnumHeld h' e it ((i : Int) + 1) old T true → St (i + 1) h' →
      h'.get? s.heap.objs.size = some { cls := .type "tuple", data := .seq #[.int i tk, x] } → (∀ b o, b ≠ e → b ≠ it → s.heap.get? b = some o → h'.get? b = some o) → Q (some (.ref s.heap.objs.size)) { s with heap := h', toks := tk + 1 }) :
    wpAny (model prog w) A (pyNext (.ref e)) Q E s := by
  have hTy : s.TypeIs (.ref e) "enumerate" := ⟨_, he, rfl⟩
  unfold pyNext
  exact wpAny_bind (wpAny_attempt (wpAny_callSpecial?_slot (name := Str.ofString "__next__") hTy F.slot_enumerate_next
    (wpAny_call_entry F.slot_enumerate_next hTy F.entry_enumerate_next (held_body D he hT hTe hTi hst hlt hne hef fun x h' tk a b c d e => wpAny_pure (hQ x h' tk a b c d e)) (F.args_enumerate_next_1 _))))
theorem held_end {e it T : Addr} {fp : List Addr} {n : Nat} {P : Nat → Value → Prop} {St : Nat → Heap → Prop} {i : Int} {old : Value} {f : Bool} {Q : Option Value → Shared → Prop}
    (D : Draws prog w A.in1 it fp n P St) (he : IsEnumHeld s.heap e it i old T f) (hst : St n s.heap) (hQ : ∀ h', Heap.ExtBut it s.heap h' → Q none { s with heap := h' }) : wpAny (model prog w) A (pyNext (.ref e)) Q E s := by
  have hTy : s.TypeIs (.ref e) "enumerate" := ⟨_, he, rfl⟩
  unfold pyNext
  refine wpAny_bind (wpAny_attempt (wpAny_callSpecial?_slot (name := Str.ofString "__next__") hTy F.slot_enumerate_next
    (wpAny_call_entry F.slot_enumerate_next hTy F.entry_enumerate_next ?_ (F.args_enumerate_next_1 _))))
  show wpAny _ _ (field (.ref e) 2 >>= _) _ _ _
  refine wpAny_bind (wpAny_field he rfl (x := .ref it) rfl ?_)
  refine wpAny_bind (D.done _ _ _ hst fun h' x k hx => ?_)
  obtain ⟨o, ho, hc⟩ := hx
  refine wpAny_bind (wpAny_isInstance (T := "StopIteration") (b := true) ⟨o, ho, hc⟩ isSubtype_stop ?_)
  exact wpAny_pure (hQ _ k)
end
/-- enumerate over what draws, as dict's argument -/
theorem pairs_enum {prog : Program} {w : World} {e it : Addr} {fp : List Addr} {n : Nat} {P : Nat → Value → Prop} {St : Nat → Heap → Prop} (D : ∀ A : Around, A.handled = none → Draws prog w A it fp n P St) (hei : e ≠ it) (hef : e ∉ fp) (hif : it ∈ fp) (hth : ∀ i h, St i h → ∀ b ∈ fp, ∃ o, h.get? b = some o)
    (hk : ∀ i h h', St i h → (∀ b o, h.get? b = some o → h'.get? b = some o) → St i h') :
    PairArg prog w "enumerate" e (e :: fp) [e, it] n (fun i k v => (∃ t, k = .int i t) ∧ P i v) (fun h => (∃ old, IsEnum h e it 0 old) ∧ St 0 h) where
  type := fun s ok => let ⟨⟨_, he⟩, _⟩ := ok; ⟨_, he, rfl⟩
  notDict := by decide
  keep := fun h h' ok k => let ⟨⟨old, he⟩, st⟩ := ok; ⟨⟨old, k _ _ he⟩, hk _ _ _ st k⟩
  there := fun h ok b hb => by
    obtain ⟨⟨old, he⟩, st⟩ := ok
    rcases List.mem_cons.mp hb with z | z
    · rw [z]; exact ⟨_, he⟩
    · exact hth _ _ st b z
  sub := fun b hb => by
    have : b = e ∨ b = it := by simpa using hb
    rcases this with z | z
    · rw [z]; exact List.mem_cons_self
    · rw [z]; exact List.mem_cons_of_mem _ hif
  noKeys := fun A s Q E hA ok h => let ⟨⟨_, he⟩, _⟩ := ok; getAttrOr_miss_enumerate he rfl rfl rfl enumerate_no_keys (by decide +kernel) hA h
  iter := fun A s d Q E hA ok hd hdf h => by
    obtain ⟨⟨old, he⟩, st0⟩ := ok
    have de : d ≠ e := fun z => hdf (by rw [z]; exact List.mem_cons_self)
    have df : d ∉ fp := fun z => hdf (List.mem_cons_of_mem _ z)
    have dit : d ≠ it := fun z => df (by rw [z]; exact hif)
    have DA := D A.in1 hA
    refine wpAny_pyIter_enum he (h e [e, it] (fun i h => St i h ∧ ((∃ old, IsEnum h e it (i : Nat) old) ∨ ∃ old T f oT, IsEnumHeld h e it (i : Nat) old T f ∧ h.get? T = some oT ∧ T ≠ e ∧ T ≠ it ∧ T ≠ d)) s.heap s.toks ?_
      ⟨st0, .inl ⟨old, he⟩⟩ (fun _ _ e => e) fun b hb => .inl hb)
    exact {
      off := fun hm => by
        have : d = e ∨ d = it := by simpa using hm
        rcases this with z | z
        · exact de z
        · exact dit z
      frame := fun i h1 h2 st k => by
        obtain ⟨st, he⟩ := st
        refine ⟨DA.frame _ _ _ st fun b hb o q => k b o (fun z => df (z ▸ hb)) q, ?_⟩
        rcases he with ⟨old, he⟩ | ⟨old, T, f, oT, he, hT, r1, r2, r3⟩
        · exact .inl ⟨old, k _ _ (Ne.symm de) he⟩
        · exact .inr ⟨old, T, f, oT, k _ _ (Ne.symm de) he, k _ _ r3 hT, r1, r2, r3⟩
      item := fun i s1 Q1 E1 hi st hds hQ => by
        obtain ⟨st, he⟩ := st
        have ec : ((i + 1 : Nat) : Int) = (i : Int) + 1 := by omega
        obtain ⟨oi, hoi⟩ := DA.live _ _ st
        have nit : s1.heap.objs.size ≠ it := Nat.ne_of_gt (Heap.lt_size hoi)
        rcases he with ⟨old, he⟩ | ⟨old, T, f, oT, he, hT, r1, r2, r3⟩
        · refine wpAny_pyNext_enum_itemD DA he st hi hei hef fun x h' tk px ho st' hT hsz k => ?_
          exact hQ s1.heap.objs.size _ _ h' (tk + 1) ⟨⟨_, rfl⟩, px⟩ (.inl ⟨_, hT, rfl, _, rfl⟩)
            ⟨st', .inr ⟨_, s1.heap.objs.size, false, _, (by rw [ec]; exact ho), hT, Nat.ne_of_gt (Heap.lt_size he), nit, Nat.ne_of_gt hds⟩⟩
            fun b o hb q => k b o (fun y => hb (by simp [y])) (fun y => hb (by simp [y])) q
        · refine held_next DA he hT r1 r2 st hi hei hef fun x h' tk px ho st' hT' k => ?_
          exact hQ s1.heap.objs.size _ _ h' (tk + 1) ⟨⟨_, rfl⟩, px⟩ (.inl ⟨_, hT', rfl, _, rfl⟩)
            ⟨st', .inr ⟨old, T, true, oT, (by rw [ec]; exact ho), k _ _ r1 r2 hT, r1, r2, r3⟩⟩
            fun b o hb q => k b o (fun y => hb (by simp [y])) (fun y => hb (by simp [y])) q
      done := fun s1 Q1 E1 st hQ => by
        obtain ⟨st, he⟩ := st
        rcases he with ⟨old, he⟩ | ⟨old, T, f, oT, he, hT, r1, r2, r3⟩
        · exact wpAny_pyNext_enum_endD DA he st fun h' k => hQ h' s1.toks fun b o hb q => k b o (fun y => hb (by simp [y])) q
        · exact held_end DA he st fun h' k => hQ h' s1.toks fun b o hb q => k b o (fun y => hb (by simp [y])) q }
/-! ### dict(enumerate(e)) -/
def enumK {α : Type} : Nat → List α → List (Key × α)
  | _, [] => []
  | k, x :: xs => (.inl (k : Int), x) :: enumK (k + 1) xs
theorem enumK_get {α : Type} : ∀ (xs : List α) (k i : Nat), (enumK k xs)[i]? = (xs[i]?).map fun x => (.inl ((k + i : Nat) : Int), x)
  | [], k, i => by simp [enumK]
  | x :: xs, k, 0 => by simp [enumK]
  | x :: xs, k, i + 1 => by
    show (enumK (k + 1) xs)[i]? = (xs[i]?).map _
    rw [enumK_get xs (k + 1) i]
    have e : k + 1 + i = k + (i + 1) := by omega
    rw [e]
theorem enumK_len {α : Type} : ∀ (xs : List α) (k : Nat), (enumK k xs).length = xs.length
  | [], _ => rfl
  | x :: xs, k => by
    show (enumK (k + 1) xs).length + 1 = xs.length + 1
    rw [enumK_len xs]
theorem enumK_snd {α : Type} : ∀ (xs : List α) (k : Nat), (enumK k xs).map (fun p => p.2) = xs
  | [], _ => rfl
  | x :: xs, k => by
    show x :: (enumK (k + 1) xs).map (fun p => p.2) = _
    rw [enumK_snd xs]
theorem enumK_keys {α : Type} : ∀ (xs : List α) (k : Nat), (enumK k xs).map (fun p => p.1) = (List.range' k xs.length).map fun (i : Nat) => (Sum.inl (i : Int) : Key)
  | [], _ => rfl
  | x :: xs, k => by
    show _ :: (enumK (k + 1) xs).map (fun p => p.1) = _
    rw [enumK_keys xs, List.length_cons, List.range'_succ, List.map_cons]
theorem enumK_dist {α : Type} : ∀ (xs : List α) (k : Nat), distK ((enumK k xs).map (·.1)) = true
  | [], _ => rfl
  | x :: xs, k => by
    have ih := enumK_dist xs (k + 1)
    have e := enumK_keys xs (k + 1)
    show (!(((enumK (k + 1) xs).map (·.1)).any fun j => decide (j = (.inl (k : Int)))) && distK ((enumK (k + 1) xs).map (·.1))) = true
    rw [ih, Bool.and_true]
    have : (((enumK (k + 1) xs).map (·.1)).any fun j => decide (j = (Sum.inl (k : Int) : Key))) = false := by
      rw [show (enumK (k + 1) xs).map (·.1) = _ from e]
      refine List.any_eq_false.mpr fun j hj => ?_
      obtain ⟨i, hi, rfl⟩ := List.mem_map.mp hj
      have := List.mem_range'_1.mp hi
      intro z
      have z2 := of_decide_eq_true z
      have z3 : (i : Int) = (k : Int) := Sum.inl.inj z2
      omega
    rw [this]
    rfl
theorem enumK_kv : ∀ {xs : List V} {us : List Value} (k : Nat), Vals xs us → KV (enumK k xs) (enumK k us)
  | _, _, _, .nil => .nil
  | _, _, k, .cons r rr => .cons ⟨rfl, r⟩ (enumK_kv (k + 1) rr)
/-- the keys -/
def idxD (n : Nat) : List D := (List.range n).map fun (i : Nat) => .int (i : Int)
theorem idxD_keys {xs : List V} : (idxD xs.length).map keyD = (enumK 0 xs).map (fun p => some p.1) := by
  have e := enumK_keys xs 0
  have e2 : (enumK 0 xs).map (fun p => some p.1) = ((enumK 0 xs).map (fun p => p.1)).map some := by rw [List.map_map]; rfl
  rw [e2, e, List.map_map]
  unfold idxD
  rw [List.map_map, List.range_eq_range']
  rfl
def rDictEnum (K : Frag) : List V → Hp → VK → Prop := fun vs H Q => ∃ a xs, vs = [.ref a] ∧ (SqL K H a xs ∨ SqT K H a xs) ∧ ∀ p, H p = none → Q (.ref p) (upd H p (.dK (enumK 0 xs)))
theorem pe_dictEnum {X : Cx} {e : Expr} {ta : TA} {p p2 pos pos2 : Pos} (hc : X.calm = true) (hg : Gl X "dict") (hm : X.mg "dict" = none) (hg2 : Gl X "enumerate") (hm2 : X.mg "enumerate" = none) (hb : bootBuiltins "dict" = some (.type "dict")) (ha : PA X [e] ta)
    (hs : starEach [e] X.env = [(false, eval e X.env)] := by rfl) (hs2 : starEach [.Call (.Name "enumerate" p2) [e] [] pos2] X.env = (false, eval (.Call (.Name "enumerate" p2) [e] [] pos2) X.env) :: starEach [] X.env := by rfl) :
    PE X (.Call (.Name "dict" p) [.Call (.Name "enumerate" p2) [e] [] pos2] [] pos) (fun σ H Q => ta σ H fun vs H1 => rDictEnum X.K vs H1 Q) := by
  refine ⟨fun pins s σ H Q I h => ?_⟩
  refine Call_ (ld_blt I hg hm hb (PyProof.Rows.callWith_type1 (args_cons (Call_ (ld_blt I hg2 hm2 boot_enumerate (PyProof.Rows.callWith_type1 (thn (ha.run pos2 pins s σ H _ I h) fun us s1 ⟨vs, H1, I1, r1, q1⟩ => ?_) hs rfl))) hs2) hs2 rfl))
  obtain ⟨a, xs, ev, hq, q⟩ := q1
  subst ev
  cases r1 with
  | cons r rr =>
  cases rr
  cases r
  have key : ∀ (its : List Value) (o : Obj) (Hd : Heap → Prop) (St : Nat → Heap → Prop), Vals xs its → xs.length ≤ sizeLine → Begins (.ref a) o Hd → Hd s1.heap → a ≠ s1.heap.objs.size → a ≠ s1.heap.objs.size + 1 →
      (∀ A : Around, A.handled = none → Draws X.prog X.w A s1.heap.objs.size [s1.heap.objs.size, a] its.toArray.size (fun i v => its.toArray[i]? = some v) St) → (∀ i h, St i h → ∀ b ∈ [s1.heap.objs.size, a], ∃ o, h.get? b = some o) →
      (∀ h', h'.get? s1.heap.objs.size = some o → (∀ b o, s1.heap.get? b = some o → h'.get? b = some o) → St 0 h') →
      wpAny (model X.prog X.w) X.A (call (.type "enumerate") [.ref a]) (fun v s2 => wpAny (model X.prog X.w) X.A (spliced (backTo pos (starEach [] X.env))) (fun us s3 => wpAny (model X.prog X.w) X.A (call (.type "dict") (v :: us)) (EP X pins σ Q) X.xe s3) X.xe s2) X.xe s1 := by
    intro its o Hd St rv hz B hd n1 n2 D hth h0
    refine call_enum1 B hd fun h' he hit hsz hk => args_nil ?_
    have ne : s1.heap.objs.size + 1 ≠ s1.heap.objs.size := Nat.succ_ne_self _
    have P := pairs_enum (e := s1.heap.objs.size + 1) D ne (by simp [ne, Ne.symm n2]) (by simp) hth (fun i h h' st k => (D X.A.in1 (I1.ok.hd hc)).frame i h h' st fun b _ o q => k b o q)
    have hl := rv.length
    refine PySem.call_dict_pairs (knd := mixKind X.prog X.w) (kvs := enumK 0 its) (s := { s1 with heap := h' }) P (I1.ok.hd hc) ⟨⟨.none, he⟩, h0 h' hit hk⟩ ⟨by rw [enumK_len]; simp, fun i k v hr => ?_⟩ (by rw [List.size_toArray]; omega) fun h2 tk hd2 hk2 => ?_
    · obtain ⟨⟨t, ek⟩, hv⟩ := hr
      subst ek
      refine ⟨.inl ((i : Nat) : Int), ?_, kV_is (k := .inl ((i : Nat) : Int)) ⟨t, rfl⟩⟩
      rw [enumK_get]
      have : its[i]? = some v := by simpa using hv
      rw [this]
      simp
    · have k3 : ∀ b o, s1.heap.get? b = some o → h2.get? b = some o := fun b o q => hk2 b o (fun z => by
        have hlt := Heap.lt_size q
        have : b = s1.heap.objs.size + 1 ∨ b = s1.heap.objs.size := by simpa using z
        rcases this with z | z
        · rw [z] at hlt
          exact absurd hlt (Nat.not_lt.mpr (Nat.le_succ _))
        · rw [z] at hlt
          exact Nat.lt_irrefl _ hlt) (hk b o q)
      have hbig : s1.heap.objs.size ≤ h'.objs.size := by omega
      have hm2 : (h'.objs.size == sysModules) = false := beq_eq_false_iff_ne.mpr (Nat.ne_of_gt (Nat.lt_of_lt_of_le I1.big hbig))
      have kv := KV.merge (enumK_kv 0 rv) .nil
      have e1 : mergeK [] (enumK 0 xs) = enumK 0 xs := merge_self (enumK_dist xs 0)
      rw [e1] at kv
      exact ⟨.ref h'.objs.size, upd H1 h'.objs.size (.dK (enumK 0 xs)), I1.laid (t' := tk) k3 hbig (show ObjOk X.prog X.w _ _ _ (.dK (enumK 0 xs)) from ⟨by rw [enumK_len]; exact hz, hm2, merged [] (enumK 0 its), kv, hd2⟩), rfl, q _ (I1.hok.fresh hbig)⟩
  rcases hq with hq | hq
  · obtain ⟨its, rv, p', hz⟩ := I1.list hq
    have hl := p'.isList
    obtain ⟨ol, hol, _⟩ := id hl
    have hlt := Heap.lt_size hol
    exact key its _ _ (fun i h => h.IsListIter s1.heap.objs.size a i ∧ h.IsList a its.toArray) rv hz (begins_list a its.toArray) hl (Nat.ne_of_lt hlt) (Nat.ne_of_lt (Nat.lt_succ_of_lt hlt)) (fun A hA => Draws.list hA _ a (Nat.ne_of_lt hlt) its.toArray)
      (fun i h st b hb => by
        obtain ⟨⟨o1, q1, _⟩, ⟨o2, q2, _⟩⟩ := st
        have : b = s1.heap.objs.size ∨ b = a := by simpa using hb
        rcases this with z | z
        · rw [z]; exact ⟨_, q1⟩
        · rw [z]; exact ⟨_, q2⟩) fun h' hit hk => ⟨⟨_, hit, rfl, rfl⟩, hl.at fun o q => hk a o q⟩
  · obtain ⟨its, rv, p', hz⟩ := I1.tuple hq
    have hl : s1.heap.IsTuple a its.toArray := p'
    obtain ⟨ol, hol, _⟩ := id hl
    have hlt := Heap.lt_size hol
    exact key its _ _ (fun i h => h.IsTupleIter s1.heap.objs.size a i ∧ h.IsTuple a its.toArray) rv hz (begins_tuple a its.toArray) hl (Nat.ne_of_lt hlt) (Nat.ne_of_lt (Nat.lt_succ_of_lt hlt)) (fun A hA => Draws.tuple hA _ a (Nat.ne_of_lt hlt) its.toArray)
      (fun i h st b hb => by
        obtain ⟨⟨o1, q1, _⟩, ⟨o2, q2, _⟩⟩ := st
        have : b = s1.heap.objs.size ∨ b = a := by simpa using hb
        rcases this with z | z
        · rw [z]; exact ⟨_, q1⟩
        · rw [z]; exact ⟨_, q2⟩) fun h' hit hk => ⟨⟨_, hit, rfl, rfl⟩, hl.at fun o q => hk a o q⟩
section
variable {X : Cx} {W : WX} {e : Expr} {ms : EV (List D)} {p p2 pos pos2 : Pos}
theorem R.newD {K : Frag} {S0 S : List Addr} {H : Hp} {σ : List (Option V)} {μ : M} {L : Addr} {kvs : List (Key × V)} {ks ds : List D} (r : R K S0 S H σ μ) (hL : H L = none) (hk : ks.map keyD = kvs.map fun p => some p.1) (q : Reps K (mask H (S0 ++ S)) ds (kvs.map fun p => p.2)) :
    Gr S H (L :: S) (upd H L (.dK kvs)) ∧ R K S0 (L :: S) (upd H L (.dK kvs)) (some (.ref L) :: σ) (some (.dct ks ds, .s .z) :: μ) := by
  refine ⟨⟨fun a o e n => Ex.new hL a o e, fun a ha => ?_⟩, R.unlockD (r.lock hL) upd_same (fun z => r.t0 L z hL) hk ?_⟩
  · rcases List.mem_cons.mp ha with e | z
    · rw [e]
      exact .inr hL
    · exact .inl z
  · refine q.ex (mask_mono fun a u n e => ⟨fun z => ?_, Ex.new hL a u e⟩)
    rcases List.mem_append.mp z with z | z
    · rcases List.mem_cons.mp z with z | z
      · rw [z, hL] at e
        cases e
      · exact n (List.mem_append_left _ z)
    · exact n (List.mem_append_right _ z)
def dictEnum : List D → Option (D × Kd)
  | [.lst ds] => some (.dct (idxD ds.length) ds, .s .z)
  | [.tup ds] => some (.dct (idxD ds.length) ds, .s .z)
  | _ => none
def mDictEnum (ms : EV (List D)) : EV (D × Kd) := bnd ms fun ds => opt (dictEnum ds)
theorem jo_dictEnum (hc : X.calm = true) (hg : Gl X "dict") (hm : X.mg "dict" = none) (hg2 : Gl X "enumerate") (hm2 : X.mg "enumerate" = none) (hb : bootBuiltins "dict" = some (.type "dict")) (ha : JA X W [e] ms)
    (hs : starEach [e] X.env = [(false, eval e X.env)] := by rfl) (hs2 : starEach [.Call (.Name "enumerate" p2) [e] [] pos2] X.env = (false, eval (.Call (.Name "enumerate" p2) [e] [] pos2) X.env) :: starEach [] X.env := by rfl) :
    JO X W (.Call (.Name "dict" p) [.Call (.Name "enumerate" p2) [e] [] pos2] [] pos) (mDictEnum ms) := pe_imp (pe_dictEnum hc hg hm hg2 hm2 hb ha hs hs2) fun σ H Q h => by
  obtain ⟨S0, S, μ, r, h⟩ := h
  refine ⟨S0, S, μ, r, Post.bnd (Z' := ZFs X.K S0 σ) h fun S1 H1 μ1 ds vs g1 z1 h1 => ?_⟩
  cases q : dictEnum ds with
  | none =>
    rw [q] at h1
    exact h1.elim
  | some c =>
    rw [q] at h1
    have fin : ∀ {es : List D} {us : List V}, c = (.dct (idxD es.length) es, .s .z) → Reps X.K (mask H1 (S0 ++ S1)) es us → ∀ p, H1 p = none → Q (.ref p) (upd H1 p (.dK (enumK 0 us))) := fun {es us} ec r p hp => by
      subst ec
      obtain ⟨g, rr⟩ := z1.1.newD (ks := idxD es.length) (ds := es) (kvs := enumK 0 us) hp (by rw [← r.length]; exact idxD_keys) (by rw [enumK_snd]; exact r)
      exact h1 _ _ _ g rr
    unfold dictEnum at q
    split at q
    · obtain ⟨v, e1, q1⟩ := reps1 z1.2
      obtain ⟨a, us, e2, q2, q3⟩ := q1
      subst e1
      subst e2
      exact ⟨a, us, rfl, .inl (ex_l mask_ex q2), fin (Option.some.inj q).symm q3⟩
    · obtain ⟨v, e1, q1⟩ := reps1 z1.2
      obtain ⟨a, us, e2, q2, q3⟩ := q1
      subst e1
      subst e2
      exact ⟨a, us, rfl, .inr (ex_t mask_ex q2), fin (Option.some.inj q).symm q3⟩
    · cases q
end
end Mn
end
section
/-! Mn: list(range(n)). -/
namespace Mn
open PySem PySem.Spec PyProof.Rows L2
theorem vals_range : ∀ (l : List Value) (k : Nat), (∀ j v, l[j]? = some v → ∃ t, v = Value.int ((k + j : Nat) : Int) t) → Vals ((List.range' k l.length).map fun (i : Nat) => V.int (i : Int)) l
  | [], _, _ => .nil
  | v :: l, k, h => by
    rw [List.length_cons, List.range'_succ, List.map_cons]
    obtain ⟨t, e⟩ := h 0 v rfl
    refine .cons ⟨t, by rw [e]; rfl⟩ (vals_range l (k + 1) fun j w q => ?_)
    obtain ⟨t', e'⟩ := h (j + 1) w (by simpa using q)
    exact ⟨t', by rw [e']; congr 2; omega⟩
theorem pe_listRange1 {X : Cx} {e : Expr} {ta : TA} {p p2 pos pos2 : Pos} (hc : X.calm = true) (hg : Gl X "list") (hm : X.mg "list" = none) (hb : bootBuiltins "list" = some (.type "list")) (hg2 : Gl X "range") (hm2 : X.mg "range" = none) (ha : PA X [e] ta)
    (hs : starEach [e] X.env = [(false, eval e X.env)] := by rfl) (hs2 : starEach [.Call (.Name "range" p2) [e] [] pos2] X.env = (false, eval (.Call (.Name "range" p2) [e] [] pos2) X.env) :: starEach [] X.env := by rfl) :
    PE X (.Call (.Name "list" p) [.Call (.Name "range" p2) [e] [] pos2] [] pos) (fun σ H Q => ta σ H fun vs H1 => ∃ j : Int, vs = [.int j] ∧ -(2 ^ 62) ≤ j ∧ j ≤ 16777216 ∧ ∀ q, H1 q = none → Q (.ref q) (upd H1 q (.lst ((List.range j.toNat).map fun (i : Nat) => V.int (i : Int))))) := by
  refine ⟨fun pins s σ H Q I h => ?_⟩
  refine Call_ (ld_blt I hg hm hb (PyProof.Rows.callWith_type1 (args_cons (Call_ (ld_blt I hg2 hm2 boot_range (PyProof.Rows.callWith_type1 (thn (ha.run pos2 pins s σ H _ I h) fun us s1 ⟨vs, H1, I1, r1, q1⟩ => ?_) hs rfl))) hs2) hs2 rfl))
  obtain ⟨j, ev, j1, j2, q⟩ := q1
  subst ev
  cases r1 with
  | cons r rr =>
  cases rr
  obtain ⟨t, rfl⟩ := r
  have en : Builtin.Range.rangeSize 0 j 1 = j.toNat := by
    rw [rangeSize_one]
    split <;> omega
  refine call_range_1 (args_nil ?_)
  refine PySem.call_list_range (n := j.toNat) (I1.ok.hd hc) (IsRange.new ..) (small_one (by omega) (by omega) j1 (by omega)) (by rw [en]) (by omega) fun h' tk acc c' hk hl hi => ?_
  have k3 : ∀ b o, s1.heap.get? b = some o → h'.get? b = some o := fun b o z => hk b o (Heap.get?_push_of_some _ z)
  have hn : acc.toList.length = j.toNat := by rw [Array.length_toList]; exact hi.1
  have rv := vals_range acc.toList 0 fun i v z => by
    obtain ⟨t', e'⟩ := hi.2 i v (by simpa using z)
    exact ⟨t', by rw [e']; congr 1; omega⟩
  rw [hn, ← List.range_eq_range'] at rv
  have hz : ((List.range j.toNat).map fun (i : Nat) => V.int (i : Int)).length ≤ sizeLine := by
    rw [List.length_map, List.length_range, sizeLine_eq]
    omega
  have hle : ∀ {o : Obj}, s1.heap.objs.size ≤ (s1.heap.push o).objs.size := fun {o} => by
    rw [Heap.size_push]
    exact Nat.le_succ _
  exact ⟨.ref _, upd H1 _ (.lst ((List.range j.toNat).map fun (i : Nat) => V.int (i : Int))), I1.laid (t' := tk) k3 hle (show ObjOk X.prog X.w _ _ _ (.lst _) from ⟨hz, acc.toList, c', rv, by rw [Array.toArray_toList]; exact hl⟩), rfl, q _ (I1.hok.fresh hle)⟩
section
variable {X : Cx} {W : WX} {e : Expr} {ms : EV (List D)} {p p2 pos pos2 : Pos}
def lsRng : List D → Option (D × Kd)
  | [.int j] => bif inR j && decide (j.toNat ≤ 16777216) then some (.lst (idxD j.toNat), .s .z) else none
  | _ => none
def mListRng (ms : EV (List D)) : EV (D × Kd) := bnd ms fun ds => opt (lsRng ds)
theorem reps_idx {K : Frag} {F : Hp} (n : Nat) : Reps K F (idxD n) ((List.range n).map fun (i : Nat) => V.int (i : Int)) := by
  unfold idxD
  induction (List.range n) with
  | nil => exact Reps.nil
  | cons x l ih =>
    rw [List.map_cons, List.map_cons]
    exact Reps.cons rfl ih
theorem jo_listRange1 (hc : X.calm = true) (hg : Gl X "list") (hm : X.mg "list" = none) (hb : bootBuiltins "list" = some (.type "list")) (hg2 : Gl X "range") (hm2 : X.mg "range" = none) (ha : JA X W [e] ms)
    (hs : starEach [e] X.env = [(false, eval e X.env)] := by rfl) (hs2 : starEach [.Call (.Name "range" p2) [e] [] pos2] X.env = (false, eval (.Call (.Name "range" p2) [e] [] pos2) X.env) :: starEach [] X.env := by rfl) :
    JO X W (.Call (.Name "list" p) [.Call (.Name "range" p2) [e] [] pos2] [] pos) (mListRng ms) := pe_imp (pe_listRange1 hc hg hm hb hg2 hm2 ha hs hs2) fun σ H Q h => by
  obtain ⟨S0, S, μ, r, h⟩ := h
  refine ⟨S0, S, μ, r, Post.bnd (Z' := ZFs X.K S0 σ) h fun S1 H1 μ1 ds vs g1 z1 h1 => ?_⟩
  cases q : lsRng ds with
  | none =>
    rw [q] at h1
    exact h1.elim
  | some c =>
    rw [q] at h1
    unfold lsRng at q
    split at q
    · rename_i j
      cases hb2 : inR j && decide (j.toNat ≤ 16777216) with
      | false => rw [hb2] at q; cases q
      | true =>
        rw [hb2] at q
        cases q
        have h2 := Bool.and_eq_true_iff.mp hb2
        have h3 := inR_ok h2.1
        have h4 := of_decide_eq_true h2.2
        obtain ⟨v, e1, q1⟩ := reps1 z1.2
        subst e1
        refine ⟨j, by rw [show v = .int j from q1], h3.1, by omega, fun p hp => ?_⟩
        obtain ⟨r2, g2⟩ := z1.1.new hp (reps_idx j.toNat)
        exact h1 _ _ _ g2 r2
    · cases q
end
end Mn
end
section
/-! Mn: a dict walked: locked while it is. -/
namespace Mn
open PySem PySem.Spec PyProof.Rows L2
/-- a dict, locked or not -/
def Lk (kvs : List (Key × V)) (o : HO) : Prop := o = .dK kvs ∨ ∃ x, o = .frz x (.dK kvs)
theorem rd_swap {F : Hp} {a b : Addr} {kvs : List (Key × V)} {o o' u : HO} (h : F a = some o) (l : Lk kvs o) (l' : Lk kvs o') (hu : ∀ x y, u ≠ .frz x y) (r : Rd F b u) : Rd (upd F a o') b u := by
  by_cases e : b = a
  · subst e
    have hk : u = .dK kvs := by
      rcases r with r | ⟨x, r⟩
      · rw [h] at r
        have r := Option.some.inj r
        rcases l with l | ⟨y, l⟩
        · rw [← r, l]
        · exact absurd (r.symm.trans l) (hu _ _)
      · rw [h] at r
        have r := Option.some.inj r
        rcases l with l | ⟨y, l⟩
        · rw [l] at r
          cases r
        · rw [l] at r
          cases r
          rfl
    subst hk
    rcases l' with l' | ⟨y, l'⟩
    · exact .inl (by rw [upd_same, l'])
    · exact .inr ⟨y, by rw [upd_same, l']⟩
  · rcases r with r | ⟨x, r⟩
    · exact .inl (by rw [upd_ne e]; exact r)
    · exact .inr ⟨x, by rw [upd_ne e]; exact r⟩
mutual
theorem Rep.swap {K : Frag} {F : Hp} {a : Addr} {kvs : List (Key × V)} {o o' : HO} (h : F a = some o) (l : Lk kvs o) (l' : Lk kvs o') : ∀ {d : D} {v : V}, Rep K F d v → Rep K (upd F a o') d v
  | .non, _, r => r
  | .bl _, _, r => r
  | .int _, _, r => r
  | .str _, _, r => r
  | .tup _, _, r => by
    obtain ⟨b, vs, e1, h1, h2⟩ := r
    refine ⟨b, vs, e1, ?_, Reps.swap h l l' h2⟩
    rcases h1 with h1 | h1
    · exact .inl (rd_swap h l l' (fun _ _ z => nomatch z) h1)
    · exact .inr h1
  | .lst _, _, r => by
    obtain ⟨b, vs, e1, h1, h2⟩ := r
    refine ⟨b, vs, e1, ?_, Reps.swap h l l' h2⟩
    rcases h1 with h1 | h1
    · exact .inl (rd_swap h l l' (fun _ _ z => nomatch z) h1)
    · exact .inr h1
  | .dct _ _, _, r => by
    obtain ⟨b, ws, e1, h1, h3, h2⟩ := r
    exact ⟨b, ws, e1, rd_swap h l l' (fun _ _ z => nomatch z) h1, h3, Reps.swap h l l' h2⟩
theorem Reps.swap {K : Frag} {F : Hp} {a : Addr} {kvs : List (Key × V)} {o o' : HO} (h : F a = some o) (l : Lk kvs o) (l' : Lk kvs o') : ∀ {ds : List D} {vs : List V}, Reps K F ds vs → Reps K (upd F a o') ds vs
  | [], _, r => r
  | _ :: _, _, r => by
    obtain ⟨v, rr, e1, h1, h2⟩ := r
    exact ⟨v, rr, e1, Rep.swap h l l' h1, Reps.swap h l l' h2⟩
end
theorem mask_upd_out {H : Hp} {S : List Addr} {a : Addr} {o : HO} (n : a ∉ S) : mask (upd H a o) S = upd (mask H S) a o := by
  funext b
  by_cases e : b = a
  · subst e
    rw [upd_same]
    unfold mask
    rw [if_neg n, upd_same]
  · rw [upd_ne e]
    unfold mask
    by_cases z : b ∈ S
    · rw [if_pos z, if_pos z]
    · rw [if_neg z, if_neg z, upd_ne e]
theorem Own.swap {K : Frag} {F H H' : Hp} {a : Addr} {kvs : List (Key × V)} {o o' : HO} (h : F a = some o) (l : Lk kvs o) (l' : Lk kvs o') : ∀ {k : Kd} {d : D} {v : V} {S : List Addr}, (∀ b ∈ S, H' b = H b) → Own K F H k d v S → Own K (upd F a o') H' k d v S
  | .z, _, _, _, _, r => ⟨r.1, r.2.swap h l l'⟩
  | .s k, .lst _, _, _, m, r => by
    obtain ⟨b, vs, S1, e1, e2, e3, h1⟩ := r
    subst e3
    refine ⟨b, vs, S1, e1, (m b List.mem_cons_self).trans e2, rfl, OwnsF.mono (fun d v S2 q => Own.swap h l l' fun c hc => m c (List.mem_cons_of_mem _ (q c hc))) h1⟩
  | .s k, .dct _ _, _, _, m, r => by
    obtain ⟨b, ws, S1, e1, e2, e3, e4, h1⟩ := r
    subst e3
    exact ⟨b, ws, S1, e1, (m b List.mem_cons_self).trans e2, rfl, e4, OwnsF.mono (fun d v S2 q => Own.swap h l l' fun c hc => m c (List.mem_cons_of_mem _ (q c hc))) h1⟩
  | .s k, .tup _, _, _, m, r => by
    obtain ⟨b, vs, e1, e2, h1⟩ := r
    refine ⟨b, vs, e1, ?_, OwnsF.mono (fun d v S2 q => Own.swap h l l' fun c hc => m c (q c hc)) h1⟩
    rcases e2 with e2 | e2
    · exact .inl (rd_swap h l l' (fun _ _ z => nomatch z) e2)
    · exact .inr e2
  | .s k, .non, _, _, _, r => ⟨r.1, r.2.swap h l l'⟩
  | .s k, .bl _, _, _, _, r => ⟨r.1, r.2.swap h l l'⟩
  | .s k, .int _, _, _, _, r => ⟨r.1, r.2.swap h l l'⟩
  | .s k, .str _, _, _, _, r => ⟨r.1, r.2.swap h l l'⟩
theorem R.swap {K : Frag} {S0 S : List Addr} {H : Hp} {σ : List (Option V)} {μ : M} {a : Addr} {kvs : List (Key × V)} {o o' : HO} (r : R K S0 S H σ μ) (n : a ∉ S0 ++ S) (h : H a = some o) (l : Lk kvs o) (l' : Lk kvs o') : R K S0 S (upd H a o') σ μ where
  t0 := fun b hb => by
    by_cases e : b = a
    · rw [e, upd_same]
      exact fun z => nomatch z
    · rw [upd_ne e]
      exact r.t0 b hb
  dis := r.dis
  nd := r.nd
  sl := r.sl.mono fun k d v T hT q => by
    unfold own
    rw [mask_upd_out n]
    exact Own.swap (mask_some.mpr ⟨n, h⟩) l l' (fun b hb => upd_ne fun e => n (by rw [← e]; exact List.mem_append_right _ (hT b hb))) q
section
variable {X : Cx} {W : WX} {pin : Bool} {sa : List Stmt} {a : MS}
/-- the turns, once the iterator has come -/
theorem for_turns {g : TgE} {us : List Nat} {S0 S1 : List Addr} {σ : Sg} {H1 : Hp} {μ1 : M} {ds : List D} {J : It} {En : Ends} (hpn : (pin && decide (0 ∈ us)) = false) (r1 : R X.K S0 S1 H1 σ μ1) (it1 : ItD X.K (mask H1 (S0 ++ S1)) ds J) (h1 : PostS X.K X.mg W pin S0 S1 σ H1 (mTurns g a ds μ1) En) :
    ∃ Wt : Nat → Nat → Sg → Hp → Prop, (∃ m, Wt 0 m σ H1) ∧ ∀ i m σ H, Wt i m σ H → (J.stop i H ∧ En.nx σ H) ∨ (J.go i H ∧ ∃ N : Sg → Hp → Prop, (∀ σ' H', N σ' H' → ∃ m', m' < m ∧ Wt (i + 1) m' σ' H') ∧ ∀ x H', J.yld i H x H' → tG X.K us g x σ H' fun σ2 H2 => tS X.K X.mg W pin a { En with nx := N, ct := N, bk := En.nx } σ2 H2) := by
  refine ⟨fun i m σ2 H2 => m + i = ds.length ∧ ∃ S2 μ2, Gr S1 H1 S2 H2 ∧ R X.K S0 S2 H2 σ2 μ2 ∧ PostS X.K X.mg W pin S0 S2 σ2 H2 (mTurns g a (ds.drop i) μ2) En, ⟨ds.length, rfl, S1, μ1, Gr.refl, r1, by rw [List.drop_zero]; exact h1⟩, fun i m σ2 H2 w => ?_⟩
  obtain ⟨em, S2, μ2, g2, r2, h2⟩ := w
  obtain ⟨ig, is⟩ := it1 i (S0 ++ S2) H2 r2.tr g2.mask
  cases q : ds[i]? with
  | none =>
    have hl : ds.length ≤ i := List.getElem?_eq_none_iff.mp q
    rw [List.drop_eq_nil_of_le hl] at h2
    exact .inl ⟨is hl, h2 S2 H2 σ2 Gr.refl Keep.refl r2⟩
  | some d =>
    obtain ⟨hl, hd⟩ := List.getElem?_eq_some_iff.mp q
    rw [List.drop_eq_getElem_cons hl, hd] at h2
    obtain ⟨go, yl⟩ := ig d q
    refine .inr ⟨go, fun σ' H' => ∃ S' μ', Gr S1 H1 S' H' ∧ R X.K S0 S' H' σ' μ' ∧ PostS X.K X.mg W pin S0 S' σ' H' (mTurns g a (ds.drop (i + 1)) μ') En, fun σ' H' hN => ?_, fun x H' hy => ?_⟩
    · obtain ⟨S', μ', g', r', p'⟩ := hN
      exact ⟨m - 1, by omega, by omega, S', μ', g', r', p'⟩
    · obtain ⟨ex, p⟩ := yl x H' hy
      have r2' := r2.ex ex
      have h3 : PostS X.K X.mg W pin S0 S2 σ2 H' (tn a (mTurns g a (ds.drop (i + 1))) (g (d, .z) μ2)) En := PostS.grow (Gr.ex ex) Keep.refl h2
      cases eg : g (d, .z) μ2 with
      | none =>
        rw [eg] at h3
        exact h3.elim
      | some μ3 =>
        rw [eg] at h3
        refine ⟨S0, S2, μ2, (d, .z), r2'.push p, μ3, eg, fun S3 σ3 sub3 kp3 r3 => ?_⟩
        refine ⟨S0, S3, μ3, r3, lp_run (PostS.grow (gr_sub sub3) (kp3.keep hpn) h3) fun S4 H4 σ4 μ4 g4 k4 r4 p4 => ?_⟩
        exact ⟨S4, μ4, g2.trans ((Gr.ex ex).trans ((gr_sub sub3).trans g4)), r4, p4⟩
/-- a frozen dict in a slot -/
def dw (i : Nat) (μ : M) : Option (List D × List D) := match μ[i]? with
  | some (some (.dct ks ds, .z)) => some (ks, ds)
  | _ => none
theorem dw_eq {i : Nat} {μ : M} {p : List D × List D} (h : dw i μ = some p) : μ[i]? = some (some (.dct p.1 p.2, .z)) := by
  unfold dw at h
  split at h
  · rename_i q
    cases h
    exact q
  · cases h
def qtS : Option (Res Out × M) → Option (Res Out × M)
  | some (.ok o, μ) => some (.ok o, μ)
  | _ => none
/-- for .. in the dict in slot i, walked by its -/
def mForD (i : Nat) (its : List D → List D → List D) (g : TgE) (b : MS) : MS := fun μ => (dw i μ).bind fun p => qtS (mTurns g b (its p.1 p.2) μ)
/-- under the lock -/
theorem lock_ends {K : Frag} {mg : Str → Option Value} {S0 S : List Addr} {σ : Sg} {H : Hp} {a : Addr} {kvs : List (Key × V)} {od : Obj} {r : Option (Res Out × M)} {En : Ends} (ht : ∀ b ∈ S0 ++ S, H b ≠ none) (n : a ∉ S0 ++ S) (h : H a = some (.dK kvs)) (hp : PostS K mg W pin S0 S σ H (qtS r) En) :
    PostS K mg W pin S0 S σ (upd H a (.frz od (.dK kvs))) r ⟨fun σ' H' => H' a = some (.frz od (.dK kvs)) ∧ En.nx σ' (upd H' a (.dK kvs)), fun v H' => H' a = some (.frz od (.dK kvs)) ∧ En.rt v (upd H' a (.dK kvs)), fun σ' H' => H' a = some (.frz od (.dK kvs)) ∧ En.bk σ' (upd H' a (.dK kvs)), fun σ' H' => H' a = some (.frz od (.dK kvs)) ∧ En.ct σ' (upd H' a (.dK kvs))⟩ := by
  have nS : a ∉ S := fun z => n (List.mem_append_right _ z)
  have back : ∀ {S' : List Addr} {H' : Hp} {σ' : List (Option V)} {μ' : M}, Gr S (upd H a (.frz od (.dK kvs))) S' H' → R K S0 S' H' σ' μ' → H' a = some (.frz od (.dK kvs)) ∧ Gr S H S' (upd H' a (.dK kvs)) ∧ R K S0 S' (upd H' a (.dK kvs)) σ' μ' := fun {S' H' σ' μ'} g r => by
    have e1 : H' a = some (.frz od (.dK kvs)) := g.keep a _ upd_same nS
    have n1 : a ∉ S0 ++ S' := fun z => by
      rcases List.mem_append.mp z with z | z
      · exact n (List.mem_append_left _ z)
      · rcases g.new a z with z | z
        · exact nS z
        · rw [upd_same] at z
          cases z
    refine ⟨e1, ⟨fun b o e nb => ?_, fun b hb => ?_⟩, r.swap n1 e1 (.inr ⟨_, rfl⟩) (.inl rfl)⟩
    · by_cases z : b = a
      · rw [z] at e ⊢
        rw [upd_same, ← e, h]
      · rw [upd_ne z]
        exact g.keep b o (by rw [upd_ne z]; exact e) nb
    · rcases g.new b hb with z | z
      · exact .inl z
      · by_cases q : b = a
        · rw [q, upd_same] at z
          cases z
        · rw [upd_ne q] at z
          exact .inr z
  match r, hp with
  | none, hp => exact hp
  | some (.exn e, μ'), hp => exact hp.elim
  | some (.ok .nx, μ'), hp =>
    intro S' H' σ' g k rr
    obtain ⟨b1, b2, b3⟩ := back g rr
    exact ⟨b1, hp S' _ σ' b2 k b3⟩
  | some (.ok .cont, μ'), hp =>
    intro S' H' σ' g k rr
    obtain ⟨b1, b2, b3⟩ := back g rr
    exact ⟨b1, hp S' _ σ' b2 k b3⟩
  | some (.ok .brk, μ'), hp =>
    intro S' H' σ' g k rr
    obtain ⟨b1, b2, b3⟩ := back g rr
    exact ⟨b1, hp S' _ σ' b2 k b3⟩
  | some (.ok (.ret d kk), μ'), hp =>
    intro S' H' σ' v g k rr
    obtain ⟨b1, b2, b3⟩ := back g rr
    exact ⟨b1, hp S' _ σ' v b2 k b3⟩
theorem qtS_free {K : Frag} {mg : Str → Option Value} {S0 S : List Addr} {σ : Sg} {H : Hp} {r : Option (Res Out × M)} {En : Ends} (hp : PostS K mg W pin S0 S σ H (qtS r) En) : PostS K mg W pin S0 S σ H r En := by
  match r, hp with
  | none, hp => exact hp
  | some (.exn e, μ'), hp => exact hp.elim
  | some (.ok .nx, μ'), hp => exact hp
  | some (.ok .cont, μ'), hp => exact hp
  | some (.ok .brk, μ'), hp => exact hp
  | some (.ok (.ret d kk), μ'), hp => exact hp
theorem js_forD {tg iter : Expr} {i : Nat} {pos : Pos} {wi : TI} {its : List D → List D → List D} {J : Addr → Obj → List (Key × V) → It} {g : TgE} {us : List Nat} (hpn : (pin && decide (0 ∈ us)) = false) (hp : PassesOwn (model X.prog X.w) X.A X.env X.xe) (hc : X.calm = true) (hi : PI X tg iter wi)
    (hwi : ∀ (σ : Sg) (H : Hp) (Rf : It → Hp → Prop) (b : Addr) (od : Obj) (kvs : List (Key × V)), σ[i]? = some (some (.ref b)) → H b = some (.frz od (.dK kvs)) → Rf (J b od kvs) H → wi σ H Rf)
    (hit : ∀ (F : Hp) (b : Addr) (od : Obj) (kvs : List (Key × V)) (ks ds : List D), F b = some (.frz od (.dK kvs)) → ks.map keyD = kvs.map (fun p => some p.1) → Reps X.K F ds (kvs.map fun p => p.2) → ItD X.K F (its ks ds) (J b od kvs))
    (hg : JG X us tg g) (hb : JB X W pin sa a) (hs : ∀ x, foldedSetIterable iter X.env x = pure x := by intro _; rfl) : JS X W pin (.For tg iter sa [] pos) (mForD i its g a) := by
  have st : PS X (.For tg iter sa [] pos) (tFor wi (tG X.K us g) (tS X.K X.mg W pin a)) := ps_for hp hc hi hg hb hs
  have key : ∀ {S0 S : List Addr} {H : Hp} {σ : Sg} {μ : M} {En : Ends} {b : Addr} {od : Obj} {kvs : List (Key × V)} {ks ds : List D}, R X.K S0 S H σ μ → σ[i]? = some (some (.ref b)) → b ∉ S0 ++ S → H b = some (.frz od (.dK kvs)) → ks.map keyD = kvs.map (fun p => some p.1) → Reps X.K (mask H (S0 ++ S)) ds (kvs.map fun p => p.2) →
      PostS X.K X.mg W pin S0 S σ H (mTurns g a (its ks ds) μ) En → tFor wi (tG X.K us g) (tS X.K X.mg W pin a) En σ H := fun {S0 S H σ μ En b od kvs ks ds} r ev n e hk q h =>
    hwi σ H _ b od kvs ev e (for_turns hpn r (hit _ b od kvs ks ds (mask_some.mpr ⟨n, e⟩) hk q) h)
  refine ⟨fun pins s σ H En I h => ?_⟩
  obtain ⟨S0, S, μ, r, h⟩ := h
  unfold mForD at h
  cases q : dw i μ with
  | none =>
    rw [q] at h
    exact h.elim
  | some p =>
    rw [q] at h
    have h : PostS X.K X.mg W pin S0 S σ H (qtS (mTurns g a (its p.1 p.2) μ)) En := h
    obtain ⟨v, ev, b, kvs, e1, e2, e3, e4⟩ := r.read0 (dw_eq q)
    subst e1
    rcases e2 with e2 | ⟨od, e2⟩
    · obtain ⟨n, e5⟩ := mask_some.mp e2
      refine (ps_lock st).run pins s σ H En I ⟨b, .dK kvs, e5, True.intro, fun od => ?_⟩
      have r' := r.swap n e5 (.inl rfl) (.inr ⟨od, rfl⟩)
      refine key r' ev n upd_same e3 ?_ (lock_ends r.tr n e5 h)
      rw [mask_upd_out n]
      exact Reps.swap (mask_some.mpr ⟨n, e5⟩) (.inl rfl) (.inr ⟨od, rfl⟩) e4
    · obtain ⟨n, e5⟩ := mask_some.mp e2
      exact st.run pins s σ H En I (key r ev n e5 e3 e4 (qtS_free h))
end
theorem rep_key {K : Frag} {F : Hp} {d : D} {k : Key} (h : keyD d = some k) : Rep K F d (kV k) := by
  unfold keyD at h
  split at h
  · cases h; rfl
  · cases h; rfl
  · cases h
theorem keys_at {ks : List D} {kvs : List (Key × V)} (h : ks.map keyD = kvs.map (fun p => some p.1)) {i : Nat} {d : D} (q : ks[i]? = some d) : ∃ k v, kvs[i]? = some (k, v) ∧ keyD d = some k := by
  have e : (ks.map keyD)[i]? = (kvs.map (fun p => some p.1))[i]? := by rw [h]
  rw [List.getElem?_map, List.getElem?_map, q] at e
  cases z : kvs[i]? with
  | none => rw [z] at e; cases e
  | some p =>
    rw [z] at e
    exact ⟨p.1, p.2, rfl, Option.some.inj e⟩
theorem itd_keys {K : Frag} {F : Hp} {b : Addr} {od : Obj} {kvs : List (Key × V)} {ks : List D} (h : F b = some (.frz od (.dK kvs))) (hk : ks.map keyD = kvs.map (fun p => some p.1)) : ItD K F ks (Itk b od kvs) := fun i S H hS ex => by
  have h' : H b = some (.frz od (.dK kvs)) := (mask_some.mp (ex b _ h)).2
  have hl : ks.length = kvs.length := by have := congrArg List.length hk; simpa using this
  refine ⟨fun d q => ?_, fun z => ⟨h', by rw [← hl]; exact z⟩⟩
  obtain ⟨k, v, e1, e2⟩ := keys_at hk q
  refine ⟨⟨h', (List.getElem?_eq_some_iff.mp e1).1⟩, fun x H' y => ?_⟩
  obtain ⟨z1, k', v', z2, z3⟩ := y
  subst z1
  rw [e1] at z2
  cases z2
  subst z3
  exact ⟨Ex.refl _, rep_key e2⟩
theorem itd_items {K : Frag} {F : Hp} {b : Addr} {od : Obj} {kvs : List (Key × V)} {ks ds : List D} (h : F b = some (.frz od (.dK kvs))) (hk : ks.map keyD = kvs.map (fun p => some p.1)) (hr : Reps K F ds (kvs.map fun p => p.2)) : ItD K F (zipD ks ds) (Iti b od kvs) := fun i S H hS ex => by
  have h' : H b = some (.frz od (.dK kvs)) := (mask_some.mp (ex b _ h)).2
  have hl : ks.length = kvs.length := by have := congrArg List.length hk; simpa using this
  have hl2 : ds.length = kvs.length := by have := hr.length; simpa using this.symm
  refine ⟨fun d q => ?_, fun z => ⟨h', by rcases zipD_len z with z | z <;> omega⟩⟩
  obtain ⟨x, y, q1, q2, e⟩ := zipD_get q
  subst e
  obtain ⟨k, v, e1, e2⟩ := keys_at hk q1
  obtain ⟨w, w1, w2⟩ := hr.get q2
  rw [List.getElem?_map, e1] at w1
  have ew : v = w := Option.some.inj w1
  subst ew
  refine ⟨⟨h', (List.getElem?_eq_some_iff.mp e1).1⟩, fun u H' y => ?_⟩
  obtain ⟨T, k', v', z1, z2, z3, z4⟩ := y
  rw [e1] at z1
  cases z1
  subst z2
  subst z4
  exact rep_pair hS z3 (rep_key e2) (w2.ex ex)
section
variable {X : Cx} {W : WX} {pin : Bool} {sa : List Stmt} {a : MS} {i : Nat} {x : Str} {pos px apos cpos tpos : Pos} {g : TgE} {us : List Nat}
theorem js_forItems {elts : List Expr} {kk : Nat} (hpn : (pin && decide (0 ∈ us)) = false) (hp : PassesOwn (model X.prog X.w) X.A X.env X.xe) (hc : X.calm = true) (hN : X.N[i]? = some x) (hv : Vis X.env.scope x) (hg : JG X us (.Tuple elts kk tpos) g) (hb : JB X W pin sa a)
    (hd : (x == ("__debug__" : Str)) = false := by decide) (hcd : (x == ("__classdict__" : Str)) = false := by decide)
    (hbase : attributeBase (.Name x px) "items" X.env (eval (.Name x px) X.env) = eval (.Name x px) X.env := by rfl) (hline : (apos.endLine == cpos.line) = true := by rfl)
    (hs : ∀ v, foldedSetIterable (.Call (.Attribute (.Name x px) "items" apos) [] [] cpos) X.env v = pure v := by intro _; rfl) : JS X W pin (.For (.Tuple elts kk tpos) (.Call (.Attribute (.Name x px) "items" apos) [] [] cpos) sa [] pos) (mForD i zipD g a) :=
  js_forD (J := Iti) hpn hp hc (pi_items (pe_var hN hv hd hcd) hbase hline) (fun σ H Rf b od kvs ev e q => ⟨_, ev, b, od, kvs, rfl, e, q⟩) (fun F b od kvs ks ds h hk hr => itd_items h hk hr) hg hb hs
theorem js_forKeys {tg : Expr} (hpn : (pin && decide (0 ∈ us)) = false) (hp : PassesOwn (model X.prog X.w) X.A X.env X.xe) (hc : X.calm = true) (hN : X.N[i]? = some x) (hv : Vis X.env.scope x) (hg : JG X us tg g) (hb : JB X W pin sa a)
    (hd : (x == ("__debug__" : Str)) = false := by decide) (hcd : (x == ("__classdict__" : Str)) = false := by decide)
    (hs : ∀ v, foldedSetIterable (.Name x px) X.env v = pure v := by intro _; rfl) : JS X W pin (.For tg (.Name x px) sa [] pos) (mForD i (fun ks _ => ks) g a) :=
  js_forD (J := Itk) hpn hp hc (pi_keys (pe_var hN hv hd hcd)) (fun σ H Rf b od kvs ev e q => ⟨_, ev, b, od, rfl, .inl ⟨kvs, e, q⟩⟩) (fun F b od kvs ks ds h hk hr => itd_keys h hk) hg hb hs
end
end Mn
end
section
/-! Mn: isinstance of two types; a def that calls itself. -/
namespace Mn
open PySem PySem.Spec PyProof.Rows L2
section
variable {X : Cx} {W : WX} {pin : Bool} {e : Expr} {es : List Expr} {m : EV D} {pos p : Pos}
theorem j_isi2 {n n2 : Ty} {T T2 x : Str} {pt pt2 ptt : Pos} {kk : Nat} (he : JF X W e m) (hg : Gl X x) (hm : X.mg x = none) (hx : bootBuiltins x = some (.builtin "isinstance")) (hgT : Gl X T) (hmT : X.mg T = none) (hv : bootBuiltins T = some (.type n.nm)) (hgT2 : Gl X T2) (hmT2 : X.mg T2 = none) (hv2 : bootBuiltins T2 = some (.type n2.nm))
    (hnT : T ≠ "__name__" := by decide) (hdT : (T == ("__debug__" : Str)) = false := by decide) (hnT2 : T2 ≠ "__name__" := by decide) (hdT2 : (T2 == ("__debug__" : Str)) = false := by decide) (hn : x ≠ "__name__" := by decide) (hdb : (x == ("__debug__" : Str)) = false := by decide)
    (h1 : starEach [e, .Tuple [.Name T pt, .Name T2 pt2] kk ptt] X.env = (false, eval e X.env) :: starEach [.Tuple [.Name T pt, .Name T2 pt2] kk ptt] X.env := by rfl) (hpl : (backTo pos (starEach [.Tuple [.Name T pt, .Name T2 pt2] kk ptt] X.env)).any (·.1) = false := by rfl) :
    JF X W (.Call (.Name x p) [e, .Tuple [.Name T pt, .Name T2 pt2] kk ptt] [] pos) (m1 (fun d => some (.bl (isTy n d || isTy n2 d))) m) := by
  refine pe_imp (pe_callB call_isiT hg hm hx (pa_cons he (pa_cons (pe_tup (pa_cons (pe_bltn (v := .ty n.nm) hgT hmT hv rfl hnT hdT) (pa_cons (pe_bltn (v := .ty n2.nm) hgT2 hmT2 hv2 rfl hnT2 hdT2) pa_nil (by rfl)) (by rfl))) pa_nil (by rfl)) h1) hn hdb h1 hpl) fun σ H Q h => ?_
  obtain ⟨S0, S, μ, rr, h⟩ := h
  refine ⟨S0, S, μ, rr, Post.bnd (Z' := ZF X.K S0 σ) h fun S1 H1 μ1 d v g1 z1 h1 => ?_⟩
  refine ⟨by show 2 ≤ sizeLine; decide, fun q hq => ?_⟩
  have ex := Ex.new (o := .tup [.ty n.nm, .ty n2.nm]) hq
  have p2 : Rep X.K (mask (upd H1 q (.tup [.ty n.nm, .ty n2.nm])) (S0 ++ S1)) d v := z1.2.ex (Gr.ex ex).mask
  refine ⟨v, q, _, .type (tyN d), [.type n.nm, .type n2.nm], isTy n d || isTy n2 d, rfl, upd_same, .cons (.ty _) (.cons (.ty _) .nil), tyx p2, ?_, h1 S1 _ _ (Gr.ex ex) ⟨z1.1.ex ex, rfl⟩⟩
  have k1 : PySem.W.kitOne X.K (.type (tyN d)) (.type n.nm) = some (isTy n d) := kit_ty (is_ty n d)
  have k2 : PySem.W.kitOne X.K (.type (tyN d)) (.type n2.nm) = some (isTy n2 d) := kit_ty (is_ty n2 d)
  unfold PySem.W.kitAny
  rw [k1]
  cases isTy n d with
  | true => rfl
  | false =>
    unfold PySem.W.kitAny
    rw [k2]
    cases isTy n2 d <;> rfl
/-- a def that calls itself, its meaning by how deep -/
def recF (p n : Nat) (b : Sem → MS) : Nat → Sem
  | 0 => fun _ => none
  | k + 1 => semF p n (b (recF p n b k))
theorem recF_s {p n k : Nat} {b : Sem → MS} : recF p n b (k + 1) = semF p n (b (recF p n b k)) := rfl
theorem recF_len {p n : Nat} {b : Sem → MS} : ∀ {k : Nat} {ds : List D}, (recF p n b k ds).isSome = true → ds.length = p
  | 0, _, h => by cases h
  | k + 1, _, h => semF_len (m := b (recF p n b k)) h
end
theorem cal_rec {P : Program} {w : World} {K : Frag} {mg : Str → Option Value} {base : Heap} {x qual : Str} {params : Arguments} {body : List Stmt} {scope : Scope} {f : Addr} {N ps : List Str} {k0 : Nat} {b : Sem → MS}
    (F : ∃ fd, FunD K x qual params body scope [] [] f fd) (S : FnScope N ps scope) (gx : mg x = some (.ref f)) (hb : ∀ (fd : FuncData), FunD K x qual params body scope [] [] f fd → Binds K fd ps [])
    (h : ∀ (j : Nat) (sem : Sem), Cal P w K mg base (k0 + j) x ps.length sem → ∀ (cdv : Value) (A : Around) (outer : List Env) (s : Shared) (H : Hp) (E : XK), Room (k0 + j) (A.deeper (envOfC qual scope s.heap.objs.size f cdv)) → Takes (cxOf (L2.CX P w) P w K mg base N qual scope f cdv A outer s H E) (fun cls d _ H => E cls d H) →
      JB (cxOf (L2.CX P w) P w K mg base N qual scope f cdv A outer s H E) (fun cls d _ H => E cls d H) false body (b sem)) : ∀ j : Nat, Cal P w K mg base (k0 + j) x ps.length (recF ps.length N.length b j)
  | 0 => by
    obtain ⟨fd, F⟩ := F
    refine ⟨f, fd, ps, ⟨fun vs H Q E z => ?_, fun A outer s H args us vs Q E hr e0 hb2 r z => ?_⟩, gx, F.kp, hb fd F, fun ds q => recF_len (k := 0) (b := b) (n := N.length) q⟩
    · obtain ⟨ds, S, _, _, _, z⟩ := z
      exact z.elim
    · obtain ⟨ds, S, _, _, _, z⟩ := z
      exact z.elim
  | j + 1 => cal_of F S gx hb fun cdv A outer s H E hr tk => h j _ (cal_rec F S gx hb h j) cdv A outer s H E hr tk
end Mn
end
section
/-! Mn: rules for the parts of MnQ, MnR, MnT, MnU. -/
namespace Mn
open PySem
section
variable {α : Type} {i : Nat} {μ : M} {d : D}
def dwv : Option (Option (D × Kd)) → Option (List D × List D)
  | some (some (.dct ks ds, .z)) => some (ks, ds)
  | _ => none
theorem dw_a : dw i μ = dwv μ[i]? := by
  unfold dw dwv
  rfl
theorem dwv_d {ks ds : List D} : dwv (some (some (.dct ks ds, .z))) = some (ks, ds) := Eq.trans rfl rfl
theorem qtS_a {o : Out} : qtS (some (.ok o, μ)) = some (.ok o, μ) := Eq.trans rfl rfl
theorem mForD_a {its : List D → List D → List D} {g : TgE} {b : MS} : mForD i its g b μ = (dw i μ).bind fun p => qtS (mTurns g b (its p.1 p.2) μ) := Eq.trans rfl rfl
theorem mDictEnum_a {ms : EV (List D)} : mDictEnum ms μ = Rs (ms μ) fun ds => opt (dictEnum ds) := Eq.trans rfl rfl
theorem mListRng_a {ms : EV (List D)} : mListRng ms μ = Rs (ms μ) fun ds => opt (lsRng ds) := Eq.trans rfl rfl
theorem dictEnum_l {ds : List D} : dictEnum [.lst ds] = some (.dct (idxD ds.length) ds, .s .z) := Eq.trans rfl rfl
theorem dictEnum_t {ds : List D} : dictEnum [.tup ds] = some (.dct (idxD ds.length) ds, .s .z) := Eq.trans rfl rfl
theorem lsRng_a {j : Int} : lsRng [.int j] = bif inR j && decide (j.toNat ≤ 16777216) then some (.lst (idxD j.toNat), .s .z) else none := Eq.trans rfl rfl
theorem gShr_a {a b : Int} : gShr (.int a) (.int b) = bif decide (0 ≤ b) then some (.int (a / 2 ^ b.toNat)) else none := Eq.trans rfl rfl
theorem gShl_a {a b : Int} : gShl (.int a) (.int b) = bif decide (0 ≤ b) && decide (b ≤ 1000000) && decide (a.natAbs < 18446744073709551616) then some (.int (a * 2 ^ b.toNat)) else none := Eq.trans rfl rfl
end
end Mn
end
section
namespace G
open PySem PySem.Spec PyProof.Rows L2 Mn
def topS (i : Nat) : Stmt := PySem.Challenge.pw_squaremark_k02_check_symbols.main.body.getD i (.Pass ⟨0, 0, 0, 0⟩)
theorem bb_all : bootBuiltins "all" = some (.builtin "all") := by decide +kernel
theorem bb_bool : bootBuiltins "bool" = some (.type "bool") := by decide +kernel
theorem bb_dict : bootBuiltins "dict" = some (.type "dict") := by decide +kernel
theorem bb_enumerate : bootBuiltins "enumerate" = some (.type "enumerate") := by decide +kernel
theorem bb_int : bootBuiltins "int" = some (.type "int") := by decide +kernel
theorem bb_isinstance : bootBuiltins "isinstance" = some (.builtin "isinstance") := by decide +kernel
theorem bb_len : bootBuiltins "len" = some (.builtin "len") := by decide +kernel
theorem bb_list : bootBuiltins "list" = some (.type "list") := by decide +kernel
theorem bb_min : bootBuiltins "min" = some (.builtin "min") := by decide +kernel
theorem bb_range : bootBuiltins "range" = some (.type "range") := by decide +kernel
theorem bb_tuple : bootBuiltins "tuple" = some (.type "tuple") := by decide +kernel
structure Tx (K : Frag) (mg : Str → Option Value) : Prop where
  free_all : mg "all" = none
  free_bool : mg "bool" = none
  free_dict : mg "dict" = none
  free_enumerate : mg "enumerate" = none
  free_int : mg "int" = none
  free_isinstance : mg "isinstance" = none
  free_len : mg "len" = none
  free_list : mg "list" = none
  free_min : mg "min" = none
  free_range : mg "range" = none
  free_tuple : mg "tuple" = none
  int_FIELD_SIZE : ∃ t, mg "FIELD_SIZE" = some (.int 16 t)
  int_MAX_SYMBOL : ∃ t, mg "MAX_SYMBOL" = some (.int 15 t)
  int_REDUCTION : ∃ t, mg "REDUCTION" = some (.int 3 t)
  exc_InvalidBlock : ExcF K mg "InvalidBlock"
  g_is_integer : mg "is_integer" = some (.ref (He.ga K "is_integer"))
  d_is_integer : ∃ fd, FunD K "is_integer" "is_integer" (defArgs (topS 7)) (defBody (topS 7)) (defScope (topS 7)) [] [] (He.ga K "is_integer") fd
  g_is_symbol : mg "is_symbol" = some (.ref (He.ga K "is_symbol"))
  d_is_symbol : ∃ fd, FunD K "is_symbol" "is_symbol" (defArgs (topS 8)) (defBody (topS 8)) (defScope (topS 8)) [] [] (He.ga K "is_symbol") fd
  g_product : mg "product" = some (.ref (He.ga K "product"))
  d_product : ∃ fd, FunD K "product" "product" (defArgs (topS 9)) (defBody (topS 9)) (defScope (topS 9)) [] [] (He.ga K "product") fd
  g_inverse : mg "inverse" = some (.ref (He.ga K "inverse"))
  d_inverse : ∃ fd, FunD K "inverse" "inverse" (defArgs (topS 10)) (defBody (topS 10)) (defScope (topS 10)) [] [] (He.ga K "inverse") fd
  g_interpolate : mg "interpolate" = some (.ref (He.ga K "interpolate"))
  d_interpolate : ∃ fd, FunD K "interpolate" "interpolate" (defArgs (topS 11)) (defBody (topS 11)) (defScope (topS 11)) [] [] (He.ga K "interpolate") fd
  g_check_data : mg "check_data" = some (.ref (He.ga K "check_data"))
  d_check_data : ∃ fd, FunD K "check_data" "check_data" (defArgs (topS 13)) (defBody (topS 13)) (defScope (topS 13)) [] [] (He.ga K "check_data") fd
  g_append_checks : mg "append_checks" = some (.ref (He.ga K "append_checks"))
  d_append_checks : ∃ fd, FunD K "append_checks" "append_checks" (defArgs (topS 14)) (defBody (topS 14)) (defScope (topS 14)) [] [] (He.ga K "append_checks") fd
  g_encode_block : mg "encode_block" = some (.ref (He.ga K "encode_block"))
  d_encode_block : ∃ fd, FunD K "encode_block" "encode_block" (defArgs (topS 15)) (defBody (topS 15)) (defScope (topS 15)) [] [] (He.ga K "encode_block") fd
  g__law_taken : mg "_law_taken" = some (.ref (He.ga K "_law_taken"))
  d__law_taken : ∃ fd, FunD K "_law_taken" "_law_taken" (defArgs (topS 17)) (defBody (topS 17)) (defScope (topS 17)) [] [] (He.ga K "_law_taken") fd
  g__law_alike : mg "_law_alike" = some (.ref (He.ga K "_law_alike"))
  d__law_alike : ∃ fd, FunD K "_law_alike" "_law_alike" (defArgs (topS 18)) (defBody (topS 18)) (defScope (topS 18)) [] [] (He.ga K "_law_alike") fd
  g__law_product : mg "_law_product" = some (.ref (He.ga K "_law_product"))
  d__law_product : ∃ fd, FunD K "_law_product" "_law_product" (defArgs (topS 19)) (defBody (topS 19)) (defScope (topS 19)) [] [] (He.ga K "_law_product") fd
  g__law_at : mg "_law_at" = some (.ref (He.ga K "_law_at"))
  d__law_at : ∃ fd, FunD K "_law_at" "_law_at" (defArgs (topS 20)) (defBody (topS 20)) (defScope (topS 20)) [] [] (He.ga K "_law_at") fd
  g__law_block : mg "_law_block" = some (.ref (He.ga K "_law_block"))
  d__law_block : ∃ fd, FunD K "_law_block" "_law_block" (defArgs (topS 21)) (defBody (topS 21)) (defScope (topS 21)) [] [] (He.ga K "_law_block") fd
  g__law_data : mg "_law_data" = some (.ref (He.ga K "_law_data"))
  d__law_data : ∃ fd, FunD K "_law_data" "_law_data" (defArgs (topS 22)) (defBody (topS 22)) (defScope (topS 22)) [] [] (He.ga K "_law_data") fd
  g_law : mg "law" = some (.ref (He.ga K "law"))
  d_law : ∃ fd, FunD K "law" "law" (defArgs (topS 23)) (defBody (topS 23)) (defScope (topS 23)) [] [] (He.ga K "law") fd
section
variable {P : Program} {w : World} {K : Frag} {mg : Str → Option Value} {base : Heap}
/-! is_integer -/
abbrev s_is_integer : Stmt := topS 7
theorem sc_is_integer : FnScope ["value", "low", "high"] ["value", "low", "high"] (defScope s_is_integer) := ⟨rfl, rfl, rfl, by decide +kernel, rfl, by decide +kernel, by decide +kernel⟩
def b_is_integer : MS := mRet (vAnd (m1 (fun d => some (.bl (isTy .int d))) (rdv 0)) (vAnd (vNot (m1 (fun d => some (.bl (isTy .bool d))) (rdv 0))) (mCh gLe gLe (rdv 1) (rdv 0) (rdv 2))))
def f_is_integer : Sem := semF 3 3 b_is_integer
theorem ok_is_integer (T : Tx K mg) : Cal P w K mg base 1 "is_integer" 3 f_is_integer :=
  cal_of T.d_is_integer sc_is_integer T.g_is_integer (fun fd F => F.bindsN fun _ _ _ _ _ _ us hl => match us, hl with | [_, _, _], _ => rfl) fun cdv A outer s H E hr tk =>
  have SC := sc_is_integer
  (jb_one (js_ret (j_and (j_isi (n := .int) (j_var (i := 0) rfl (.inl rfl)) rfl T.free_isinstance bb_isinstance rfl T.free_int bb_int) (j_and (j_not (j_isi (n := .bool) (j_var (i := 0) rfl (.inl rfl)) rfl T.free_isinstance bb_isinstance rfl T.free_bool bb_bool)) (j_one (j_chain op_le op_le o_le o_le (j_var (i := 1) rfl (.inl rfl)) (j_var (i := 0) rfl (.inl rfl)) (j_var (i := 2) rfl (.inl rfl))))))))
/-! is_symbol -/
abbrev s_is_symbol : Stmt := topS 8
theorem sc_is_symbol : FnScope ["value"] ["value"] (defScope s_is_symbol) := ⟨rfl, rfl, rfl, by decide +kernel, rfl, by decide +kernel, by decide +kernel⟩
def b_is_symbol : MS := mRetO (mCall f_is_integer (aCons (rdv 0) (aCons (giv (.int 0)) (aCons (giv (.int 15)) (aNil)))))
def f_is_symbol : Sem := semF 1 1 b_is_symbol
theorem ok_is_symbol (T : Tx K mg) : Cal P w K mg base 2 "is_symbol" 1 f_is_symbol :=
  cal_of T.d_is_symbol sc_is_symbol T.g_is_symbol (fun fd F => F.bindsN fun _ _ _ _ _ _ us hl => match us, hl with | [_], _ => rfl) fun cdv A outer s H E hr tk =>
  have SC := sc_is_symbol
  (jb_one (js_retO (jo_cal (ok_is_integer T) hr (by decide) rfl tk (ja_cons (j_var (i := 0) rfl (.inl rfl)) (ja_cons j_int (ja_cons (j_gint rfl T.int_MAX_SYMBOL) ja_nil))))))
/-! product -/
abbrev s_product : Stmt := topS 9
theorem sc_product : FnScope ["left", "right", "result"] ["left", "right"] (defScope s_product) := ⟨rfl, rfl, rfl, by decide +kernel, rfl, by decide +kernel, by decide +kernel⟩
def l_product_0 : MS := mSeq (mIf (mB (m2 gEqX (m2 gMod (mN (n1 intD) (aCons (rdv 1) (aNil))) (giv (.int 2))) (giv (.int 1))))
    (mAug 2 gXor (rdv 0))
    (giv .nx))
  (mSeq (mAug 0 gMul (giv (.int 2)))
  (mSeq (mIf (mB (m2 gGe (rdv 0) (giv (.int 16))))
    (mSet 0 (m2 gXor (m2 gSub (rdv 0) (giv (.int 16))) (giv (.int 3))))
    (giv .nx))
  (mAug 1 gDiv (giv (.int 2)))))
def b_product : MS := mSeq (mSet 2 (giv (.int 0)))
  (mSeq (mWh (mB (m2 gGt (rdv 1) (giv (.int 0)))) l_product_0 2000)
  (mRet (rdv 2)))
def f_product : Sem := semF 2 3 b_product
theorem ok_product (T : Tx K mg) : Cal P w K mg base 1 "product" 2 f_product :=
  cal_of T.d_product sc_product T.g_product (fun fd F => F.bindsN fun _ _ _ _ _ _ us hl => match us, hl with | [_, _], _ => rfl) fun cdv A outer s H E hr tk =>
  have SC := sc_product
  (jb_cons (js_set (i := 2) rfl SC.nd rfl (.inl rfl) j_int)
  (jb_cons (js_while (n := 2000) (passes_of rfl) (jt_cmp op_gt o_gt (j_var (i := 1) rfl (.inl rfl)) j_int (nomark _)) (jb_cons (js_if (jt_cmp (op_eqX (room64 hr)) o_eqX (j_op op_mod o_mod (j_callTy call_int1 o_int rfl T.free_int bb_int (ja_cons (j_var (i := 1) rfl (.inl rfl)) ja_nil)) j_int) j_int (nomark _)) (jb_one (js_aug (i := 2) rfl SC.nd rfl (.inl rfl) iop_xor o_xor (j_var (i := 0) rfl (.inl rfl)))) jb_nil)
  (jb_cons (js_aug (i := 0) rfl SC.nd rfl (.inl rfl) iop_mul o_mul j_int)
  (jb_cons (js_if (jt_cmp op_ge o_ge (j_var (i := 0) rfl (.inl rfl)) (j_gint rfl T.int_FIELD_SIZE) (nomark _)) (jb_one (js_set (i := 0) rfl SC.nd rfl (.inl rfl) (j_op op_xor o_xor (j_op op_sub o_sub (j_var (i := 0) rfl (.inl rfl)) (j_gint rfl T.int_FIELD_SIZE)) (j_gint rfl T.int_REDUCTION)))) jb_nil)
  (jb_one (js_aug (i := 1) rfl SC.nd rfl (.inl rfl) iop_fdiv o_div j_int))))))
  (jb_one (js_ret (j_var (i := 2) rfl (.inl rfl))))))
/-! inverse -/
abbrev s_inverse : Stmt := topS 10
theorem sc_inverse : FnScope ["symbol", "result"] ["symbol"] (defScope s_inverse) := ⟨rfl, rfl, rfl, by decide +kernel, rfl, by decide +kernel, by decide +kernel⟩
def l_inverse_0 : MS := mAug 1 gAdd (giv (.int 1))
def b_inverse : MS := mSeq (mSet 1 (giv (.int 1)))
  (mSeq (mWh (mB (m2 gNeX (unO (mCall f_product (aCons (rdv 1) (aCons (rdv 0) (aNil))))) (giv (.int 1)))) l_inverse_0 2000)
  (mRet (rdv 1)))
def f_inverse : Sem := semF 1 2 b_inverse
theorem ok_inverse (T : Tx K mg) : Cal P w K mg base 2 "inverse" 1 f_inverse :=
  cal_of T.d_inverse sc_inverse T.g_inverse (fun fd F => F.bindsN fun _ _ _ _ _ _ us hl => match us, hl with | [_], _ => rfl) fun cdv A outer s H E hr tk =>
  have SC := sc_inverse
  (jb_cons (js_set (i := 1) rfl SC.nd rfl (.inl rfl) j_int)
  (jb_cons (js_while (n := 2000) (passes_of rfl) (jt_cmp (op_neX (room64 hr)) o_neX (j_unO (jo_cal (ok_product T) hr (by decide) rfl tk (ja_cons (j_var (i := 1) rfl (.inl rfl)) (ja_cons (j_var (i := 0) rfl (.inl rfl)) ja_nil)))) j_int (nomark _)) (jb_one (js_aug (i := 1) rfl SC.nd rfl (.inl rfl) iop_add o_add j_int)))
  (jb_one (js_ret (j_var (i := 1) rfl (.inl rfl))))))
/-! interpolate -/
abbrev s_interpolate : Stmt := topS 11
theorem sc_interpolate : FnScope ["points", "position", "result", "point", "value", "other", "numerator", "denominator"] ["points", "position"] (defScope s_interpolate) := ⟨rfl, rfl, rfl, by decide +kernel, rfl, by decide +kernel, by decide +kernel⟩
def l_interpolate_0 : MS := mIf (mB (m2 gNeX (rdv 5) (rdv 3)))
    (mSeq (mSet 6 (unO (mCall f_product (aCons (rdv 6) (aCons (m2 gXor (rdv 1) (rdv 5)) (aNil))))))
  (mSet 7 (unO (mCall f_product (aCons (rdv 7) (aCons (m2 gXor (rdv 3) (rdv 5)) (aNil)))))))
    (giv .nx)
def l_interpolate_1 : MS := mSeq (mPar [6, 7] (aCons (rdv 4) (aCons (giv (.int 1)) (aNil))))
  (mSeq (mForD 0 (fun ks _ => ks) (gN 5) l_interpolate_0)
  (mAug 2 gXor (unO (mCall f_product (aCons (rdv 6) (aCons (unO (mCall f_inverse (aCons (rdv 7) (aNil)))) (aNil)))))))
def b_interpolate : MS := mSeq (mIf (mB (m2 gIn (rdv 1) (rdv 0)))
    (mRet (m2 ixX (rdv 0) (rdv 1)))
    (giv .nx))
  (mSeq (mSet 2 (giv (.int 0)))
  (mSeq (mForD 0 zipD (gTp 2 (gsC (gN 3) (gsC (gN 4) (gsN)))) l_interpolate_1)
  (mRet (rdv 2))))
def f_interpolate : Sem := semF 2 8 b_interpolate
theorem ok_interpolate (T : Tx K mg) : Cal P w K mg base 3 "interpolate" 2 f_interpolate :=
  cal_of T.d_interpolate sc_interpolate T.g_interpolate (fun fd F => F.bindsN fun _ _ _ _ _ _ us hl => match us, hl with | [_, _], _ => rfl) fun cdv A outer s H E hr tk =>
  have SC := sc_interpolate
  (jb_cons (js_if (jt_cmp (op_inX (room1 hr)) o_in (j_var (i := 1) rfl (.inl rfl)) (j_var (i := 0) rfl (.inl rfl)) rfl) (jb_one (js_ret (j_ix (ix_X (room1 hr)) o_ixX (j_var (i := 0) rfl (.inl rfl)) (j_var (i := 1) rfl (.inl rfl)) (fun _ _ => rfl)))) jb_nil)
  (jb_cons (js_set (i := 2) rfl SC.nd rfl (.inl rfl) j_int)
  (jb_cons (js_forItems (i := 0) rfl (passes_of rfl) rfl rfl (.inl rfl) (jg_tup rfl (jgs_cons (jg_name (i := 3) SC.nd rfl (.inl rfl)) (jgs_cons (jg_name (i := 4) SC.nd rfl (.inl rfl)) jgs_nil))) (jb_cons (js_par2 (i := 6) (j := 7) rfl rfl rfl SC.nd rfl rfl (by decide) rfl rfl (ja_cons (j_var (i := 4) rfl (.inl rfl)) (ja_cons j_int ja_nil)) rfl)
  (jb_cons (js_forKeys (i := 0) rfl (passes_of rfl) rfl rfl (.inl rfl) (jg_name (i := 5) SC.nd rfl (.inl rfl)) (jb_one (js_if (jt_cmp (op_neX (room64 hr)) o_neX (j_var (i := 5) rfl (.inl rfl)) (j_var (i := 3) rfl (.inl rfl)) (nomark _)) (jb_cons (js_set (i := 6) rfl SC.nd rfl (.inl rfl) (j_unO (jo_cal (ok_product T) hr (by decide) rfl tk (ja_cons (j_var (i := 6) rfl (.inl rfl)) (ja_cons (j_op op_xor o_xor (j_var (i := 1) rfl (.inl rfl)) (j_var (i := 5) rfl (.inl rfl))) ja_nil)))))
  (jb_one (js_set (i := 7) rfl SC.nd rfl (.inl rfl) (j_unO (jo_cal (ok_product T) hr (by decide) rfl tk (ja_cons (j_var (i := 7) rfl (.inl rfl)) (ja_cons (j_op op_xor o_xor (j_var (i := 3) rfl (.inl rfl)) (j_var (i := 5) rfl (.inl rfl))) ja_nil))))))) jb_nil)))
  (jb_one (js_aug (i := 2) rfl SC.nd rfl (.inl rfl) iop_xor o_xor (j_unO (jo_cal (ok_product T) hr (by decide) rfl tk (ja_cons (j_var (i := 6) rfl (.inl rfl)) (ja_cons (j_unO (jo_cal (ok_inverse T) hr (by decide) rfl tk (ja_cons (j_var (i := 7) rfl (.inl rfl)) ja_nil))) ja_nil)))))))))
  (jb_one (js_ret (j_var (i := 2) rfl (.inl rfl)))))))
/-! check_data -/
abbrev s_check_data : Stmt := topS 13
theorem sc_check_data : FnScope ["data", "check_count", "symbol"] ["data", "check_count"] (defScope s_check_data) := ⟨rfl, rfl, rfl, by decide +kernel, rfl, by decide +kernel, by decide +kernel⟩
def l_check_data_0 : EV D := unO (mCall f_is_symbol (aCons (rdv 2) (aNil)))
def b_check_data : MS := mSeq (mIf (mOr (bnd (mT (m1 (fun d => some (.bl (isTy .tuple d))) (rdv 0))) fun b => giv !b) (mOr (bnd (mT (mN (n1 gAll) (aCons (unO (mLc (mIt itemsD (rdv 0)) [2] (gN 2) (giv true) (l_check_data_0))) (aNil)))) fun b => giv !b) (mB (m2 gEqX (mLenB 0) (giv (.int 0))))))
    (mRaise ⟨"InvalidBlock", []⟩)
    (giv .nx))
  (mIf (bnd (mT (unO (mCall f_is_integer (aCons (rdv 1) (aCons (giv (.int 0)) (aCons (m2 gSub (giv (.int 16)) (mLenB 0)) (aNil))))))) fun b => giv !b)
    (mRaise ⟨"InvalidBlock", []⟩)
    (giv .nx))
def f_check_data : Sem := semF 2 3 b_check_data
theorem ok_check_data (T : Tx K mg) : Cal P w K mg base 3 "check_data" 2 f_check_data :=
  cal_of T.d_check_data sc_check_data T.g_check_data (fun fd F => F.bindsN fun _ _ _ _ _ _ us hl => match us, hl with | [_, _], _ => rfl) fun cdv A outer s H E hr tk =>
  have SC := sc_check_data
  (jb_cons (js_if (jt_w (jw_or (jt_not (jt_truth (j_isi (n := .tuple) (j_var (i := 0) rfl (.inl rfl)) rfl T.free_isinstance bb_isinstance rfl T.free_tuple bb_tuple))) (jw_or (jt_not (jt_truth (j_callB (cr_all rfl) o_all rfl T.free_all bb_all (ja_cons (j_unO (jo_lc (own := [("symbol", 2)]) rfl SC.nd (ji_any (j_var (i := 0) rfl (.inl rfl))) (blkOk_fr (N := ["data", "check_count", "symbol"]) [] (by decide +kernel) trivial) rfl (fun _ _ _ _ _ => (jg_name (i := 2) SC.nd rfl (.inl rfl))) (fun _ _ _ _ _ => jts_nil) (fun _ _ _ _ _ => (j_unO (jo_cal (ok_is_symbol T) hr (by decide) rfl takes0 (ja_cons (j_var (i := 2) rfl (.inl rfl)) ja_nil)))))) ja_nil)))) (jw_or1 (jt_cmp (op_eqX (room64 hr)) o_eqX (j_lenB (i := 0) rfl (.inl rfl) rfl T.free_len bb_len) j_int (nomark _)))))) (jb_one (js_raise0 rfl T.exc_InvalidBlock rfl tk)) jb_nil)
  (jb_one (js_if (jt_not (jt_truth (j_unO (jo_cal (ok_is_integer T) hr (by decide) rfl tk (ja_cons (j_var (i := 1) rfl (.inl rfl)) (ja_cons j_int (ja_cons (j_op op_sub o_sub (j_gint rfl T.int_FIELD_SIZE) (j_lenB (i := 0) rfl (.inl rfl) rfl T.free_len bb_len)) ja_nil))))))) (jb_one (js_raise0 rfl T.exc_InvalidBlock rfl tk)) jb_nil)))
/-! append_checks -/
abbrev s_append_checks : Stmt := topS 14
theorem sc_append_checks : FnScope ["data", "check_count", "points", "turn"] ["data", "check_count"] (defScope s_append_checks) := ⟨rfl, rfl, rfl, by decide +kernel, rfl, by decide +kernel, by decide +kernel⟩
def l_append_checks_0 : EV D := unO (mCall f_interpolate (aCons (rdv 2) (aCons (m2 gAddX (mLenB 0) (rdv 3)) (aNil))))
def b_append_checks : MS := mSeq (mSet 2 (unO (mDictEnum (aCons (rdv 0) (aNil)))))
  (mRet (m2 gAddX (rdv 0) (mN (n1 gTup) (aCons (unO (mLc (mRg rng1 (aCons (rdv 1) (aNil))) [3] (gN 3) (giv true) (l_append_checks_0))) (aNil)))))
def f_append_checks : Sem := semF 2 4 b_append_checks
theorem ok_append_checks (T : Tx K mg) : Cal P w K mg base 4 "append_checks" 2 f_append_checks :=
  cal_of T.d_append_checks sc_append_checks T.g_append_checks (fun fd F => F.bindsN fun _ _ _ _ _ _ us hl => match us, hl with | [_, _], _ => rfl) fun cdv A outer s H E hr tk =>
  have SC := sc_append_checks
  (jb_cons (js_set (i := 2) rfl SC.nd rfl (.inr rfl) (j_unO (jo_dictEnum rfl rfl T.free_dict rfl T.free_enumerate bb_dict (ja_cons (j_var (i := 0) rfl (.inr (.inl rfl))) ja_nil))))
  (jb_one (js_ret (j_op op_addX o_addX (j_var (i := 0) rfl (.inr (.inl rfl))) (j_callTy call_tuple_of o_tup rfl T.free_tuple bb_tuple (ja_cons (j_unO (jo_lc (own := [("turn", 3)]) rfl SC.nd (ji_range1 rfl T.free_range (ja_cons (j_var (i := 1) rfl (.inl rfl)) ja_nil)) (blkOk_fr (N := ["data", "check_count", "points", "turn"]) ["data", "points"] (by decide +kernel) ⟨.inl rfl, ⟨.inl rfl, trivial⟩⟩) rfl (fun _ _ _ _ _ => (jg_name (i := 3) SC.nd rfl (.inl rfl))) (fun _ _ _ _ _ => jts_nil) (fun _ _ _ _ _ => (j_unO (jo_cal (ok_interpolate T) hr (by decide) rfl takes0 (ja_cons (j_var (i := 2) rfl (.inr (.inl rfl))) (ja_cons (j_op op_addX o_addX (j_lenB (i := 0) rfl (.inr (.inl rfl)) rfl T.free_len bb_len) (j_var (i := 3) rfl (.inl rfl))) ja_nil))))))) ja_nil))))))
/-! encode_block -/
abbrev s_encode_block : Stmt := topS 15
theorem sc_encode_block : FnScope ["data", "check_count"] ["data", "check_count"] (defScope s_encode_block) := ⟨rfl, rfl, rfl, by decide +kernel, rfl, by decide +kernel, by decide +kernel⟩
def b_encode_block : MS := mSeq (mDrop (unO (mCall f_check_data (aCons (rdv 0) (aCons (rdv 1) (aNil))))))
  (mRetO (mCall f_append_checks (aCons (rdv 0) (aCons (rdv 1) (aNil)))))
def f_encode_block : Sem := semF 2 2 b_encode_block
theorem ok_encode_block (T : Tx K mg) : Cal P w K mg base 5 "encode_block" 2 f_encode_block :=
  cal_of T.d_encode_block sc_encode_block T.g_encode_block (fun fd F => F.bindsN fun _ _ _ _ _ _ us hl => match us, hl with | [_, _], _ => rfl) fun cdv A outer s H E hr tk =>
  have SC := sc_encode_block
  (jb_cons (js_expr (j_unO (jo_cal (ok_check_data T) hr (by decide) rfl tk (ja_cons (j_var (i := 0) rfl (.inl rfl)) (ja_cons (j_var (i := 1) rfl (.inl rfl)) ja_nil)))))
  (jb_one (js_retO (jo_cal (ok_append_checks T) hr (by decide) rfl tk (ja_cons (j_var (i := 0) rfl (.inl rfl)) (ja_cons (j_var (i := 1) rfl (.inl rfl)) ja_nil))))))
/-! _law_taken -/
abbrev s__law_taken : Stmt := topS 17
theorem sc__law_taken : FnScope ["_law_row", "_law_many", "_law_cell", "_law_found"] ["_law_row", "_law_many"] (defScope s__law_taken) := ⟨rfl, rfl, rfl, by decide +kernel, rfl, by decide +kernel, by decide +kernel⟩
def b__law_taken : MS := mSeq (mIf (mB (m2 gGt (mIxB 0 (giv (.int 3))) (giv (.int 0))))
    (mSeq (mSet 3 (m2 gMod (mN (n1 intD) (aCons (mIxB 0 (giv (.int 3))) (aNil))) (rdv 1)))
  (mSeq (mStIx 0 (m2 gDiv (mIxB 0 (giv (.int 3))) (rdv 1)) (giv (.int 3)))
  (mRet (rdv 3))))
    (giv .nx))
  (mSeq (mStIx 0 (m2 gAddX (mIxB 0 (giv (.int 1))) (giv (.int 1))) (giv (.int 1)))
  (mSeq (mIf (mB (m2 gGt (mIxB 0 (giv (.int 1))) (mN (n1 lenD) (aCons (mIxB 0 (giv (.int 0))) (aNil)))))
    (mSeq (mStIx 0 (m2 gMod (m2 gAddX (m2 gMulX (mIxB 0 (giv (.int 2))) (giv (.int 48271))) (giv (.int 11))) (giv (.int 2147483647))) (giv (.int 2)))
  (mRet (m2 gMod (m2 gDiv (mIxB 0 (giv (.int 2))) (giv (.int 7))) (rdv 1))))
    (giv .nx))
  (mSeq (mSet 2 (m2 ixX (mIxB 0 (giv (.int 0))) (m2 gSub (mIxB 0 (giv (.int 1))) (giv (.int 1)))))
  (mSeq (mStIx 0 (m2 gMod (m2 gAddX (m2 gAddX (m2 gMulX (mIxB 0 (giv (.int 2))) (giv (.int 48271))) (rdv 2)) (giv (.int 11))) (giv (.int 2147483647))) (giv (.int 2)))
  (mSeq (mIf (mB (m2 gGe (rdv 2) (m2 gPow (giv (.int 10)) (giv (.int 18)))))
    (mStIx 0 (m2 gDiv (rdv 2) (rdv 1)) (giv (.int 3)))
    (giv .nx))
  (mRet (m2 gMod (mN (n1 intD) (aCons (rdv 2) (aNil))) (rdv 1))))))))
def f__law_taken : SemIO := semIO 2 4 b__law_taken
theorem ok__law_taken (T : Tx K mg) : CalIO P w K mg base 1 "_law_taken" 2 f__law_taken :=
  calIO_of T.d__law_taken sc__law_taken (by decide) T.g__law_taken (fun fd F => F.bindsN fun _ _ _ _ _ _ us hl => match us, hl with | [_, _], _ => rfl) fun cdv A outer s H E hr tk =>
  have SC := sc__law_taken
  (jb_cons (js_if (jt_cmp op_gt o_gt (j_ixB (i := 0) rfl (.inl rfl) j_int (fun _ _ => rfl)) j_int (nomark _)) (jb_cons (js_set (i := 3) rfl SC.nd rfl (.inl rfl) (j_op op_mod o_mod (j_callTy call_int1 o_int rfl T.free_int bb_int (ja_cons (j_ixB (i := 0) rfl (.inl rfl) j_int (fun _ _ => rfl)) ja_nil)) (j_var (i := 1) rfl (.inl rfl))))
  (jb_cons (js_stIx (i := 0) rfl (.inl rfl) (j_op op_fdiv o_div (j_ixB (i := 0) rfl (.inl rfl) j_int (fun _ _ => rfl)) (j_var (i := 1) rfl (.inl rfl))) j_int)
  (jb_one (js_ret (j_var (i := 3) rfl (.inl rfl)))))) jb_nil)
  (jb_cons (js_stIx (i := 0) rfl (.inl rfl) (j_op op_addX o_addX (j_ixB (i := 0) rfl (.inl rfl) j_int (fun _ _ => rfl)) j_int) j_int)
  (jb_cons (js_if (jt_cmp op_gt o_gt (j_ixB (i := 0) rfl (.inl rfl) j_int (fun _ _ => rfl)) (j_callB call_len o_len rfl T.free_len bb_len (ja_cons (j_ixB (i := 0) rfl (.inl rfl) j_int (fun _ _ => rfl)) ja_nil)) (nomark _)) (jb_cons (js_stIx (i := 0) rfl (.inl rfl) (j_op op_mod o_mod (j_op op_addX o_addX (j_op op_mulX o_mulX (j_ixB (i := 0) rfl (.inl rfl) j_int (fun _ _ => rfl)) j_int) j_int) j_int) j_int)
  (jb_one (js_ret (j_op op_mod o_mod (j_op op_fdiv o_div (j_ixB (i := 0) rfl (.inl rfl) j_int (fun _ _ => rfl)) j_int) (j_var (i := 1) rfl (.inl rfl)))))) jb_nil)
  (jb_cons (js_set (i := 2) rfl SC.nd rfl (.inl rfl) (j_ix (ix_X (room1 hr)) o_ixX (j_ixB (i := 0) rfl (.inl rfl) j_int (fun _ _ => rfl)) (j_op op_sub o_sub (j_ixB (i := 0) rfl (.inl rfl) j_int (fun _ _ => rfl)) j_int) (fun _ _ => rfl)))
  (jb_cons (js_stIx (i := 0) rfl (.inl rfl) (j_op op_mod o_mod (j_op op_addX o_addX (j_op op_addX o_addX (j_op op_mulX o_mulX (j_ixB (i := 0) rfl (.inl rfl) j_int (fun _ _ => rfl)) j_int) (j_var (i := 2) rfl (.inl rfl))) j_int) j_int) j_int)
  (jb_cons (js_if (jt_cmp op_ge o_ge (j_var (i := 2) rfl (.inl rfl)) (j_op op_pow o_pow j_int j_int) (nomark _)) (jb_one (js_stIx (i := 0) rfl (.inl rfl) (j_op op_fdiv o_div (j_var (i := 2) rfl (.inl rfl)) (j_var (i := 1) rfl (.inl rfl))) j_int)) jb_nil)
  (jb_one (js_ret (j_op op_mod o_mod (j_callTy call_int1 o_int rfl T.free_int bb_int (ja_cons (j_var (i := 2) rfl (.inl rfl)) ja_nil)) (j_var (i := 1) rfl (.inl rfl)))))))))))
/-! _law_alike -/
abbrev s__law_alike : Stmt := topS 18
theorem sc__law_alike : FnScope ["_law_one", "_law_due", "_law_k"] ["_law_one", "_law_due"] (defScope s__law_alike) := ⟨rfl, rfl, rfl, by decide +kernel, rfl, by decide +kernel, by decide +kernel⟩
def l__law_alike_0 (self : Sem) : EV D := rdv 2
def b__law_alike (self : Sem) : MS := mSeq (mIf (mAnd (mT (m1 (fun d => some (.bl (isTy .tuple d || isTy .list d))) (rdv 0))) (mT (m1 (fun d => some (.bl (isTy .tuple d || isTy .list d))) (rdv 1))))
    (mSeq (mIf (mOr (mB (m2 gNeX (m1 (fun d => some (.bl (isTy .tuple d))) (rdv 0)) (m1 (fun d => some (.bl (isTy .tuple d))) (rdv 1)))) (mB (m2 gNeX (mLenB 0) (mLenB 1))))
    (mRet (giv (.bl false)))
    (giv .nx))
  (mRet (m2 gEqX (unO (mLc (mRg rng1 (aCons (mLenB 0) (aNil))) [2] (gN 2) (bnd (mT (unO (mCall self (aCons (mIxB 0 (rdv 2)) (aCons (mIxB 1 (rdv 2)) (aNil)))))) fun b => giv !b) ((l__law_alike_0 self)))) (mN (fun ds => lim ds (.lst ds)) (aNil)))))
    (giv .nx))
  (mRet (vAnd (m2 gEqX (rdv 0) (rdv 1)) (m2 gEqX (m1 (fun d => some (.bl (isTy .bool d))) (rdv 0)) (m1 (fun d => some (.bl (isTy .bool d))) (rdv 1)))))
def f__law_alike : Sem := recF 2 3 b__law_alike 6
theorem ok__law_alike (T : Tx K mg) : Cal P w K mg base 6 "_law_alike" 2 f__law_alike :=
  cal_rec (k0 := 0) T.d__law_alike sc__law_alike T.g__law_alike (fun fd F => F.bindsN fun _ _ _ _ _ _ us hl => match us, hl with | [_, _], _ => rfl) (fun j self C cdv A outer s H E hr tk =>
  have SC := sc__law_alike
  (jb_cons (js_if (jt_w (jw_and (jt_truth (j_isi2 (n := .tuple) (n2 := .list) (j_var (i := 0) rfl (.inr (.inl rfl))) rfl T.free_isinstance bb_isinstance rfl T.free_tuple bb_tuple rfl T.free_list bb_list)) (jw_and1 (jt_truth (j_isi2 (n := .tuple) (n2 := .list) (j_var (i := 1) rfl (.inr (.inl rfl))) rfl T.free_isinstance bb_isinstance rfl T.free_tuple bb_tuple rfl T.free_list bb_list))))) (jb_cons (js_if (jt_w (jw_or (jt_cmp (op_neX (room64 hr)) o_neX (j_isi (n := .tuple) (j_var (i := 0) rfl (.inr (.inl rfl))) rfl T.free_isinstance bb_isinstance rfl T.free_tuple bb_tuple) (j_isi (n := .tuple) (j_var (i := 1) rfl (.inr (.inl rfl))) rfl T.free_isinstance bb_isinstance rfl T.free_tuple bb_tuple) (nomark _)) (jw_or1 (jt_cmp (op_neX (room64 hr)) o_neX (j_lenB (i := 0) rfl (.inr (.inl rfl)) rfl T.free_len bb_len) (j_lenB (i := 1) rfl (.inr (.inl rfl)) rfl T.free_len bb_len) (nomark _))))) (jb_one (js_ret j_bl)) jb_nil)
  (jb_one (js_ret (j_cmp (op_eqX (room64 hr)) o_eqX (j_unO (jo_lc (own := [("_law_k", 2)]) rfl SC.nd (ji_range1 rfl T.free_range (ja_cons (j_lenB (i := 0) rfl (.inr (.inl rfl)) rfl T.free_len bb_len) ja_nil)) (blkOk_fr (N := ["_law_one", "_law_due", "_law_k"]) ["_law_due", "_law_one"] (by decide +kernel) ⟨.inl rfl, ⟨.inl rfl, trivial⟩⟩) rfl (fun _ _ _ _ _ => (jg_name (i := 2) SC.nd rfl (.inl rfl))) (fun _ _ _ _ _ => (jts_one (jt_not (jt_truth (j_unO (jo_cal C hr (Nat.le_refl _) rfl takes0 (ja_cons (j_ixB (i := 0) rfl (.inr (.inl rfl)) (j_var (i := 2) rfl (.inl rfl)) (fun _ _ => rfl)) (ja_cons (j_ixB (i := 1) rfl (.inr (.inl rfl)) (j_var (i := 2) rfl (.inl rfl)) (fun _ _ => rfl)) ja_nil)))))))) (fun _ _ _ _ _ => (j_var (i := 2) rfl (.inl rfl))))) (j_lst ja_nil) (nomark _))))) jb_nil)
  (jb_one (js_ret (j_and (j_cmp (op_eqX (room64 hr)) o_eqX (j_var (i := 0) rfl (.inr (.inl rfl))) (j_var (i := 1) rfl (.inr (.inl rfl))) (nomark _)) (j_one (j_cmp (op_eqX (room64 hr)) o_eqX (j_isi (n := .bool) (j_var (i := 0) rfl (.inr (.inl rfl))) rfl T.free_isinstance bb_isinstance rfl T.free_bool bb_bool) (j_isi (n := .bool) (j_var (i := 1) rfl (.inr (.inl rfl))) rfl T.free_isinstance bb_isinstance rfl T.free_bool bb_bool) (nomark _)))))))) 6
/-! _law_product -/
abbrev s__law_product : Stmt := topS 19
theorem sc__law_product : FnScope ["_law_one", "_law_other", "_law_whole", "_law_bit"] ["_law_one", "_law_other"] (defScope s__law_product) := ⟨rfl, rfl, rfl, by decide +kernel, rfl, by decide +kernel, by decide +kernel⟩
def l__law_product_0 : MS := mIf (mT (m2 gAnd (m2 gShr (rdv 1) (rdv 3)) (giv (.int 1))))
    (mSet 2 (m2 gXor (rdv 2) (m2 gShl (rdv 0) (rdv 3))))
    (giv .nx)
def l__law_product_1 : MS := mIf (mT (m2 gAnd (m2 gShr (rdv 2) (rdv 3)) (giv (.int 1))))
    (mSet 2 (m2 gXor (rdv 2) (m2 gShl (giv (.int 19)) (m2 gSub (rdv 3) (giv (.int 4))))))
    (giv .nx)
def b__law_product : MS := mSeq (mSet 2 (giv (.int 0)))
  (mSeq (mFor (mRg rng1 (aCons (giv (.int 4)) (aNil))) (gN 3) l__law_product_0)
  (mSeq (mFor (mIt itemsD (mN (fun ds => lim ds (.tup ds)) (aCons (giv (.int 6)) (aCons (giv (.int 5)) (aCons (giv (.int 4)) (aNil)))))) (gN 3) l__law_product_1)
  (mRet (rdv 2))))
def f__law_product : Sem := semF 2 4 b__law_product
theorem ok__law_product (T : Tx K mg) : Cal P w K mg base 1 "_law_product" 2 f__law_product :=
  cal_of T.d__law_product sc__law_product T.g__law_product (fun fd F => F.bindsN fun _ _ _ _ _ _ us hl => match us, hl with | [_, _], _ => rfl) fun cdv A outer s H E hr tk =>
  have SC := sc__law_product
  (jb_cons (js_set (i := 2) rfl SC.nd rfl (.inl rfl) j_int)
  (jb_cons (js_for rfl (passes_of rfl) rfl (ji_range1 rfl T.free_range (ja_cons j_int ja_nil)) (jg_name (i := 3) SC.nd rfl (.inl rfl)) (jb_one (js_if (jt_truth (j_op op_and o_and (j_op op_shr o_shr (j_var (i := 1) rfl (.inl rfl)) (j_var (i := 3) rfl (.inl rfl))) j_int)) (jb_one (js_set (i := 2) rfl SC.nd rfl (.inl rfl) (j_op op_xor o_xor (j_var (i := 2) rfl (.inl rfl)) (j_op op_shl o_shl (j_var (i := 0) rfl (.inl rfl)) (j_var (i := 3) rfl (.inl rfl)))))) jb_nil)))
  (jb_cons (js_for rfl (passes_of rfl) rfl (ji_any (j_tup (ja_cons j_int (ja_cons j_int (ja_cons j_int ja_nil))))) (jg_name (i := 3) SC.nd rfl (.inl rfl)) (jb_one (js_if (jt_truth (j_op op_and o_and (j_op op_shr o_shr (j_var (i := 2) rfl (.inl rfl)) (j_var (i := 3) rfl (.inl rfl))) j_int)) (jb_one (js_set (i := 2) rfl SC.nd rfl (.inl rfl) (j_op op_xor o_xor (j_var (i := 2) rfl (.inl rfl)) (j_op op_shl o_shl j_int (j_op op_sub o_sub (j_var (i := 3) rfl (.inl rfl)) j_int))))) jb_nil)))
  (jb_one (js_ret (j_var (i := 2) rfl (.inl rfl)))))))
/-! _law_at -/
abbrev s__law_at : Stmt := topS 20
theorem sc__law_at : FnScope ["_law_marks", "_law_points", "_law_at_here", "_law_whole", "_law_k", "_law_j", "_law_top", "_law_below", "_law_mark"] ["_law_marks", "_law_points", "_law_at_here"] (defScope s__law_at) := ⟨rfl, rfl, rfl, by decide +kernel, rfl, by decide +kernel, by decide +kernel⟩
def l__law_at_0 : MS := mIf (mB (m2 gNeX (rdv 5) (rdv 4)))
    (mAsg (mN (fun ds => lim ds (.tup ds)) (aCons (unO (mCall f__law_product (aCons (rdv 6) (aCons (m2 gXor (rdv 2) (mIxB 1 (rdv 5))) (aNil))))) (aCons (unO (mCall f__law_product (aCons (rdv 7) (aCons (m2 gXor (mIxB 1 (rdv 4)) (mIxB 1 (rdv 5))) (aNil))))) (aNil)))) (gTp 2 (gsC (gN 6) (gsC (gN 7) (gsN)))))
    (giv .nx)
def l__law_at_1 : EV D := rdv 8
def l__law_at_2 : MS := mSeq (mAsg (mN (fun ds => lim ds (.tup ds)) (aCons (mIxB 0 (rdv 4)) (aCons (giv (.int 1)) (aNil)))) (gTp 2 (gsC (gN 6) (gsC (gN 7) (gsN)))))
  (mSeq (mFor (mRg rng1 (aCons (mLenB 1) (aNil))) (gN 5) l__law_at_0)
  (mSet 3 (m2 gXor (rdv 3) (m2 ixX (unO (mLc (mRg rng1 (aCons (giv (.int 16)) (aNil))) [8] (gN 8) (mB (m2 gEqX (unO (mCall f__law_product (aCons (rdv 8) (aCons (rdv 7) (aNil))))) (rdv 6))) (l__law_at_1))) (giv (.int 0))))))
def b__law_at : MS := mSeq (mSet 3 (giv (.int 0)))
  (mSeq (mFor (mRg rng1 (aCons (mLenB 1) (aNil))) (gN 4) l__law_at_2)
  (mRet (rdv 3)))
def f__law_at : Sem := semF 3 9 b__law_at
theorem ok__law_at (T : Tx K mg) : Cal P w K mg base 2 "_law_at" 3 f__law_at :=
  cal_of T.d__law_at sc__law_at T.g__law_at (fun fd F => F.bindsN fun _ _ _ _ _ _ us hl => match us, hl with | [_, _, _], _ => rfl) fun cdv A outer s H E hr tk =>
  have SC := sc__law_at
  (jb_cons (js_set (i := 3) rfl SC.nd rfl (.inl rfl) j_int)
  (jb_cons (js_for rfl (passes_of rfl) rfl (ji_range1 rfl T.free_range (ja_cons (j_lenB (i := 1) rfl (.inl rfl) rfl T.free_len bb_len) ja_nil)) (jg_name (i := 4) SC.nd rfl (.inl rfl)) (jb_cons (js_asg rfl (j_tup (ja_cons (j_ixB (i := 0) rfl (.inl rfl) (j_var (i := 4) rfl (.inl rfl)) (fun _ _ => rfl)) (ja_cons j_int ja_nil))) (jg_tup rfl (jgs_cons (jg_name (i := 6) SC.nd rfl (.inr rfl)) (jgs_cons (jg_name (i := 7) SC.nd rfl (.inr rfl)) jgs_nil))))
  (jb_cons (js_for rfl (passes_of rfl) rfl (ji_range1 rfl T.free_range (ja_cons (j_lenB (i := 1) rfl (.inl rfl) rfl T.free_len bb_len) ja_nil)) (jg_name (i := 5) SC.nd rfl (.inl rfl)) (jb_one (js_if (jt_cmp (op_neX (room64 hr)) o_neX (j_var (i := 5) rfl (.inl rfl)) (j_var (i := 4) rfl (.inl rfl)) (nomark _)) (jb_one (js_asg rfl (j_tup (ja_cons (j_unO (jo_cal (ok__law_product T) hr (by decide) rfl tk (ja_cons (j_var (i := 6) rfl (.inr (.inl rfl))) (ja_cons (j_op op_xor o_xor (j_var (i := 2) rfl (.inl rfl)) (j_ixB (i := 1) rfl (.inl rfl) (j_var (i := 5) rfl (.inl rfl)) (fun _ _ => rfl))) ja_nil)))) (ja_cons (j_unO (jo_cal (ok__law_product T) hr (by decide) rfl tk (ja_cons (j_var (i := 7) rfl (.inr (.inl rfl))) (ja_cons (j_op op_xor o_xor (j_ixB (i := 1) rfl (.inl rfl) (j_var (i := 4) rfl (.inl rfl)) (fun _ _ => rfl)) (j_ixB (i := 1) rfl (.inl rfl) (j_var (i := 5) rfl (.inl rfl)) (fun _ _ => rfl))) ja_nil)))) ja_nil))) (jg_tup rfl (jgs_cons (jg_name (i := 6) SC.nd rfl (.inr rfl)) (jgs_cons (jg_name (i := 7) SC.nd rfl (.inr rfl)) jgs_nil))))) jb_nil)))
  (jb_one (js_set (i := 3) rfl SC.nd rfl (.inl rfl) (j_op op_xor o_xor (j_var (i := 3) rfl (.inl rfl)) (j_ix (ix_X (room1 hr)) o_ixX (j_unO (jo_lc (own := [("_law_mark", 8)]) rfl SC.nd (ji_range1 rfl T.free_range (ja_cons j_int ja_nil)) (blkOk_fr (N := ["_law_marks", "_law_points", "_law_at_here", "_law_whole", "_law_k", "_law_j", "_law_top", "_law_below", "_law_mark"]) ["_law_below", "_law_top"] (by decide +kernel) ⟨.inl rfl, ⟨.inl rfl, trivial⟩⟩) rfl (fun _ _ _ _ _ => (jg_name (i := 8) SC.nd rfl (.inl rfl))) (fun _ _ _ _ _ => (jts_one (jt_cmp (op_eqX (room64 hr)) o_eqX (j_unO (jo_cal (ok__law_product T) hr (by decide) rfl takes0 (ja_cons (j_var (i := 8) rfl (.inl rfl)) (ja_cons (j_var (i := 7) rfl (.inr (.inl rfl))) ja_nil)))) (j_var (i := 6) rfl (.inr (.inl rfl))) (nomark _)))) (fun _ _ _ _ _ => (j_var (i := 8) rfl (.inl rfl))))) j_int (fun _ _ => rfl))))))))
  (jb_one (js_ret (j_var (i := 3) rfl (.inl rfl))))))
/-! _law_block -/
abbrev s__law_block : Stmt := topS 21
theorem sc__law_block : FnScope ["_law_data_here", "_law_checks", "_law_points", "_law_k"] ["_law_data_here", "_law_checks"] (defScope s__law_block) := ⟨rfl, rfl, rfl, by decide +kernel, rfl, by decide +kernel, by decide +kernel⟩
def l__law_block_0 : EV D := unO (mCall f__law_at (aCons (rdv 0) (aCons (rdv 2) (aCons (m2 gAddX (mLenB 0) (rdv 3)) (aNil)))))
def b__law_block : MS := mSeq (mSet 2 (unO (mListRng (aCons (mLenB 0) (aNil)))))
  (mRet (m2 gAddX (mN (n1 gTup) (aCons (rdv 0) (aNil))) (mN (n1 gTup) (aCons (unO (mLc (mRg rng1 (aCons (rdv 1) (aNil))) [3] (gN 3) (giv true) (l__law_block_0))) (aNil)))))
def f__law_block : Sem := semF 2 4 b__law_block
theorem ok__law_block (T : Tx K mg) : Cal P w K mg base 3 "_law_block" 2 f__law_block :=
  cal_of T.d__law_block sc__law_block T.g__law_block (fun fd F => F.bindsN fun _ _ _ _ _ _ us hl => match us, hl with | [_, _], _ => rfl) fun cdv A outer s H E hr tk =>
  have SC := sc__law_block
  (jb_cons (js_set (i := 2) rfl SC.nd rfl (.inr rfl) (j_unO (jo_listRange1 rfl rfl T.free_list bb_list rfl T.free_range (ja_cons (j_lenB (i := 0) rfl (.inr (.inl rfl)) rfl T.free_len bb_len) ja_nil))))
  (jb_one (js_ret (j_op op_addX o_addX (j_callTy call_tuple_of o_tup rfl T.free_tuple bb_tuple (ja_cons (j_var (i := 0) rfl (.inr (.inl rfl))) ja_nil)) (j_callTy call_tuple_of o_tup rfl T.free_tuple bb_tuple (ja_cons (j_unO (jo_lc (own := [("_law_k", 3)]) rfl SC.nd (ji_range1 rfl T.free_range (ja_cons (j_var (i := 1) rfl (.inl rfl)) ja_nil)) (blkOk_fr (N := ["_law_data_here", "_law_checks", "_law_points", "_law_k"]) ["_law_data_here", "_law_points"] (by decide +kernel) ⟨.inl rfl, ⟨.inl rfl, trivial⟩⟩) rfl (fun _ _ _ _ _ => (jg_name (i := 3) SC.nd rfl (.inl rfl))) (fun _ _ _ _ _ => jts_nil) (fun _ _ _ _ _ => (j_unO (jo_cal (ok__law_at T) hr (by decide) rfl takes0 (ja_cons (j_var (i := 0) rfl (.inr (.inl rfl))) (ja_cons (j_var (i := 2) rfl (.inr (.inl rfl))) (ja_cons (j_op op_addX o_addX (j_lenB (i := 0) rfl (.inr (.inl rfl)) rfl T.free_len bb_len) (j_var (i := 3) rfl (.inl rfl))) ja_nil)))))))) ja_nil))))))
/-! _law_data -/
abbrev s__law_data : Stmt := topS 22
theorem sc__law_data : FnScope ["_law_row", "_law_most", "_law_k", "_law_checks", "_law_kinds", "_law_turn"] ["_law_row", "_law_most"] (defScope s__law_data) := ⟨rfl, rfl, rfl, by decide +kernel, rfl, by decide +kernel, by decide +kernel⟩
def l__law_data_0 : EV D := unO (mCallIO 0 f__law_taken (aCons (rdv 4) (aNil)))
def b__law_data : MS := mSeq (mSet 2 (m2 gAddX (giv (.int 1)) (unO (mCallIO 0 f__law_taken (aCons (rdv 1) (aNil))))))
  (mSeq (mSet 3 (unO (mCallIO 0 f__law_taken (aCons (mN (gMin2) (aCons (m2 ixX (mN (fun ds => lim ds (.lst ds)) (aCons (giv (.int 8)) (aCons (giv (.int 13)) (aNil)))) (unO (mCallIO 0 f__law_taken (aCons (giv (.int 2)) (aNil))))) (aCons (m2 gSub (giv (.int 17)) (rdv 2)) (aNil)))) (aNil)))))
  (mSeq (mSet 4 (m2 ixX (mN (fun ds => lim ds (.lst ds)) (aCons (giv (.int 2)) (aCons (giv (.int 16)) (aCons (giv (.int 16)) (aNil))))) (unO (mCallIO 0 f__law_taken (aCons (giv (.int 3)) (aNil))))))
  (mRet (mN (fun ds => lim ds (.tup ds)) (aCons (mN (n1 gTup) (aCons (unO (mLc (mRg rng1 (aCons (rdv 2) (aNil))) [5] (gN 5) (giv true) (l__law_data_0))) (aNil))) (aCons (rdv 3) (aNil)))))))
def f__law_data : SemIO := semIO 2 6 b__law_data
theorem ok__law_data (T : Tx K mg) : CalIO P w K mg base 2 "_law_data" 2 f__law_data :=
  calIO_of T.d__law_data sc__law_data (by decide) T.g__law_data (fun fd F => F.bindsN fun _ _ _ _ _ _ us hl => match us, hl with | [_, _], _ => rfl) fun cdv A outer s H E hr tk =>
  have SC := sc__law_data
  (jb_cons (js_set (i := 2) rfl SC.nd rfl (.inl rfl) (j_op op_addX o_addX j_int (j_unO (jo_calIO (i := 0) (ok__law_taken T) hr (by decide) rfl tk rfl (.inr (.inl rfl)) (ja_cons (j_var (i := 1) rfl (.inl rfl)) ja_nil)))))
  (jb_cons (js_set (i := 3) rfl SC.nd rfl (.inl rfl) (j_unO (jo_calIO (i := 0) (ok__law_taken T) hr (by decide) rfl tk rfl (.inr (.inl rfl)) (ja_cons (j_callB (call_min2 rfl) o_min2 rfl T.free_min bb_min (ja_cons (j_ix (ix_X (room1 hr)) o_ixX (j_lst (ja_cons j_int (ja_cons j_int ja_nil))) (j_unO (jo_calIO (i := 0) (ok__law_taken T) hr (by decide) rfl tk rfl (.inr (.inl rfl)) (ja_cons j_int ja_nil))) (fun _ _ => rfl)) (ja_cons (j_op op_sub o_sub j_int (j_var (i := 2) rfl (.inl rfl))) ja_nil))) ja_nil))))
  (jb_cons (js_set (i := 4) rfl SC.nd rfl (.inr rfl) (j_ix (ix_X (room1 hr)) o_ixX (j_lst (ja_cons j_int (ja_cons j_int (ja_cons j_int ja_nil)))) (j_unO (jo_calIO (i := 0) (ok__law_taken T) hr (by decide) rfl tk rfl (.inr (.inl rfl)) (ja_cons j_int ja_nil))) (fun _ _ => rfl)))
  (jb_one (js_ret (j_tup (ja_cons (j_callTy call_tuple_of o_tup rfl T.free_tuple bb_tuple (ja_cons (j_unO (jo_lc (own := [("_law_turn", 5)]) rfl SC.nd (ji_range1 rfl T.free_range (ja_cons (j_var (i := 2) rfl (.inl rfl)) ja_nil)) (blkOk_fr (N := ["_law_row", "_law_most", "_law_k", "_law_checks", "_law_kinds", "_law_turn"]) ["_law_kinds", "_law_row"] (by decide +kernel) ⟨.inl rfl, ⟨.inl rfl, trivial⟩⟩) rfl (fun _ _ _ _ _ => (jg_name (i := 5) SC.nd rfl (.inl rfl))) (fun _ _ _ _ _ => jts_nil) (fun _ _ _ _ _ => (j_unO (jo_calIO (i := 0) (ok__law_taken T) hr (by decide) rfl takes0 rfl (.inr (.inl rfl)) (ja_cons (j_var (i := 4) rfl (.inr (.inl rfl))) ja_nil)))))) ja_nil)) (ja_cons (j_var (i := 3) rfl (.inl rfl)) ja_nil))))))))
/-! law -/
abbrev s_law : Stmt := topS 23
theorem sc_law : FnScope ["_law_script", "_law_row", "_law_turn", "_law_data_here", "_law_due", "_law_once", "_law_checks", "_law_k"] ["_law_script"] (defScope s_law) := ⟨rfl, rfl, rfl, by decide +kernel, rfl, by decide +kernel, by decide +kernel⟩
def l_law_0 : MS := mIf (bnd (mT (unO (mCall f__law_alike (aCons (unO (mCall f_encode_block (aCons (rdv 3) (aCons (rdv 6) (aNil))))) (aCons (rdv 4) (aNil)))))) fun b => giv !b)
    (mRet (giv (.bl false)))
    (giv .nx)
def l_law_1 : MS := mSeq (mAsg (unO (mCallIO 1 f__law_data (aCons (giv (.int 14)) (aNil)))) (gTp 2 (gsC (gN 3) (gsC (gN 6) (gsN)))))
  (mSeq (mSet 4 (unO (mCall f__law_block (aCons (rdv 3) (aCons (rdv 6) (aNil))))))
  (mFor (mRg rng1 (aCons (giv (.int 2)) (aNil))) (gN 5) l_law_0))
def l_law_2 : EV D := unO (mCallIO 1 f__law_taken (aCons (giv (.int 16)) (aNil)))
def b_law : MS := mSeq (mSetO 1 (mLstO (aCons (rdv 0) (aCons (giv (.int 0)) (aCons (giv (.int 0)) (aCons (giv (.int 0)) (aNil)))))))
  (mSeq (mFor (mRg rng1 (aCons (giv (.int 4)) (aNil))) (gN 2) l_law_1)
  (mSeq (mSet 3 (mN (n1 gTup) (aCons (unO (mLc (mRg rng1 (aCons (giv (.int 16)) (aNil))) [7] (gN 7) (giv true) (l_law_2))) (aNil))))
  (mRet (vAnd (m2 gEqX (unO (mCall f_encode_block (aCons (rdv 3) (aCons (giv (.int 0)) (aNil))))) (rdv 3)) (m2 gEqX (unO (mCall f_encode_block (aCons (mSl (rdv 3) (giv none) (mPart (giv (.int 1)))) (aCons (giv (.int 15)) (aNil))))) (m2 gMulX (mSl (rdv 3) (giv none) (mPart (giv (.int 1)))) (giv (.int 16))))))))
def f_law : Sem := semF 1 8 b_law
end
def fn : List He.DefD := [⟨("is_integer", none), "is_integer", "is_integer", defArgs s_is_integer, defBody s_is_integer, defScope s_is_integer, [], []⟩, ⟨("is_symbol", none), "is_symbol", "is_symbol", defArgs s_is_symbol, defBody s_is_symbol, defScope s_is_symbol, [], []⟩, ⟨("product", none), "product", "product", defArgs s_product, defBody s_product, defScope s_product, [], []⟩, ⟨("inverse", none), "inverse", "inverse", defArgs s_inverse, defBody s_inverse, defScope s_inverse, [], []⟩, ⟨("interpolate", none), "interpolate", "interpolate", defArgs s_interpolate, defBody s_interpolate, defScope s_interpolate, [], []⟩, ⟨("check_data", none), "check_data", "check_data", defArgs s_check_data, defBody s_check_data, defScope s_check_data, [], []⟩, ⟨("append_checks", none), "append_checks", "append_checks", defArgs s_append_checks, defBody s_append_checks, defScope s_append_checks, [], []⟩, ⟨("encode_block", none), "encode_block", "encode_block", defArgs s_encode_block, defBody s_encode_block, defScope s_encode_block, [], []⟩, ⟨("_law_taken", none), "_law_taken", "_law_taken", defArgs s__law_taken, defBody s__law_taken, defScope s__law_taken, [], []⟩, ⟨("_law_alike", none), "_law_alike", "_law_alike", defArgs s__law_alike, defBody s__law_alike, defScope s__law_alike, [], []⟩, ⟨("_law_product", none), "_law_product", "_law_product", defArgs s__law_product, defBody s__law_product, defScope s__law_product, [], []⟩, ⟨("_law_at", none), "_law_at", "_law_at", defArgs s__law_at, defBody s__law_at, defScope s__law_at, [], []⟩, ⟨("_law_block", none), "_law_block", "_law_block", defArgs s__law_block, defBody s__law_block, defScope s__law_block, [], []⟩, ⟨("_law_data", none), "_law_data", "_law_data", defArgs s__law_data, defBody s__law_data, defScope s__law_data, [], []⟩, ⟨("law", none), "law", "law", defArgs s_law, defBody s_law, defScope s_law, [], []⟩]
def fa : List He.Fa := [.glo "is_integer", .glo "is_symbol", .glo "product", .glo "inverse", .glo "interpolate", .glo "check_data", .glo "append_checks", .glo "encode_block", .glo "_law_taken", .glo "_law_alike", .glo "_law_product", .glo "_law_at", .glo "_law_block", .glo "_law_data", .glo "law", .free "all", .free "bool", .free "dict", .free "enumerate", .free "int", .free "isinstance", .free "len", .free "list", .free "min", .free "range", .free "tuple", .int "FIELD_SIZE" 16, .int "MAX_SYMBOL" 15, .int "REDUCTION" 3, .glo "InvalidBlock", .exc "InvalidBlock"]
def ex (K : PySem.W.Frag) : Bool := true
theorem tx {K : Frag} {h : Heap} {mg : Str → Option Value} (X : K.In h) (G : h.Ns mainGlobals mg) (c : He.SaysD fa fn K) (hx : ex K = true) : Tx K mg where
  free_all := He.free_ok X G (c.fact 15 (f := .free "all") rfl)
  free_bool := He.free_ok X G (c.fact 16 (f := .free "bool") rfl)
  free_dict := He.free_ok X G (c.fact 17 (f := .free "dict") rfl)
  free_enumerate := He.free_ok X G (c.fact 18 (f := .free "enumerate") rfl)
  free_int := He.free_ok X G (c.fact 19 (f := .free "int") rfl)
  free_isinstance := He.free_ok X G (c.fact 20 (f := .free "isinstance") rfl)
  free_len := He.free_ok X G (c.fact 21 (f := .free "len") rfl)
  free_list := He.free_ok X G (c.fact 22 (f := .free "list") rfl)
  free_min := He.free_ok X G (c.fact 23 (f := .free "min") rfl)
  free_range := He.free_ok X G (c.fact 24 (f := .free "range") rfl)
  free_tuple := He.free_ok X G (c.fact 25 (f := .free "tuple") rfl)
  int_FIELD_SIZE := He.int_ok X G (c.fact 26 (f := .int "FIELD_SIZE" 16) rfl)
  int_MAX_SYMBOL := He.int_ok X G (c.fact 27 (f := .int "MAX_SYMBOL" 15) rfl)
  int_REDUCTION := He.int_ok X G (c.fact 28 (f := .int "REDUCTION" 3) rfl)
  exc_InvalidBlock := by
    obtain ⟨h1, h2, h3, h4⟩ := He.exc_ok (c.fact 30 (f := .exc "InvalidBlock") rfl)
    exact ⟨_, He.glo_ok X G (c.fact 29 (f := .glo "InvalidBlock") rfl), h1, h2, h3, h4⟩
  g_is_integer := He.glo_ok X G (c.fact 0 (f := .glo "is_integer") rfl)
  d_is_integer := c.def_ 0 rfl
  g_is_symbol := He.glo_ok X G (c.fact 1 (f := .glo "is_symbol") rfl)
  d_is_symbol := c.def_ 1 rfl
  g_product := He.glo_ok X G (c.fact 2 (f := .glo "product") rfl)
  d_product := c.def_ 2 rfl
  g_inverse := He.glo_ok X G (c.fact 3 (f := .glo "inverse") rfl)
  d_inverse := c.def_ 3 rfl
  g_interpolate := He.glo_ok X G (c.fact 4 (f := .glo "interpolate") rfl)
  d_interpolate := c.def_ 4 rfl
  g_check_data := He.glo_ok X G (c.fact 5 (f := .glo "check_data") rfl)
  d_check_data := c.def_ 5 rfl
  g_append_checks := He.glo_ok X G (c.fact 6 (f := .glo "append_checks") rfl)
  d_append_checks := c.def_ 6 rfl
  g_encode_block := He.glo_ok X G (c.fact 7 (f := .glo "encode_block") rfl)
  d_encode_block := c.def_ 7 rfl
  g__law_taken := He.glo_ok X G (c.fact 8 (f := .glo "_law_taken") rfl)
  d__law_taken := c.def_ 8 rfl
  g__law_alike := He.glo_ok X G (c.fact 9 (f := .glo "_law_alike") rfl)
  d__law_alike := c.def_ 9 rfl
  g__law_product := He.glo_ok X G (c.fact 10 (f := .glo "_law_product") rfl)
  d__law_product := c.def_ 10 rfl
  g__law_at := He.glo_ok X G (c.fact 11 (f := .glo "_law_at") rfl)
  d__law_at := c.def_ 11 rfl
  g__law_block := He.glo_ok X G (c.fact 12 (f := .glo "_law_block") rfl)
  d__law_block := c.def_ 12 rfl
  g__law_data := He.glo_ok X G (c.fact 13 (f := .glo "_law_data") rfl)
  d__law_data := c.def_ 13 rfl
  g_law := He.glo_ok X G (c.fact 14 (f := .glo "law") rfl)
  d_law := c.def_ 14 rfl
def nm0 : List PySem.Str := ["SquaremarkError", "InvalidBlock", "MAX_SYMBOL", "FIELD_SIZE", "REDUCTION", "is_integer", "is_symbol", "product", "inverse", "interpolate", "check_data", "append_checks", "encode_block", "_law_taken", "_law_alike", "_law_product", "_law_at", "_law_block", "_law_data"]
def loose : List PySem.Str := nm0
abbrev R : PySem.W.OpenRow := PySem.W.OpenLaw.row PySem.Challenge.rw_squaremark_k02_check_symbols
abbrev hk : PySem.W.Hook := hookM 4 fa fn ex
def ob (s : PySem.W.SharedT) : He.AlD × Bool := obM 4 fa fn ex (HandSHeadRun.getT s)
theorem ob_eq (s : PySem.W.SharedT) : ob s = hk.obs s.abs := obM_eq (HandSHeadRun.getT_eq s)
theorem run (w : World) : HandSHeadRun.RunEq R (PySem.W.view R.prog [23]) hk ob 20000 loose w := by
  intro os
  kernel_rfl
theorem bd_law {P : Program} {w : World} {K : Frag} {mg : Str → Option Value} {base : Heap} (T : Tx K mg) {cdv : Value} {A : Around} {outer : List Env} {s : Shared} {H : Hp} {E : XK} (hr : Room 6 (A.deeper (envOfC "law" (defScope s_law) s.heap.objs.size (He.ga K "law") cdv))) :
    JB (cxOf (L2.CX P w) P w K mg base ["_law_script", "_law_row", "_law_turn", "_law_data_here", "_law_due", "_law_once", "_law_checks", "_law_k"] "law" (defScope s_law) (He.ga K "law") cdv A outer s H E) (fun cls d _ H => E cls d H) false (defBody s_law) b_law :=
  have tk := takes_of (E := E) rfl rfl rfl rfl
  have SC := sc_law
  (jb_cons (js_setO (i := 1) rfl SC.nd rfl (.inr rfl) (jo_lst (ja_cons (j_var (i := 0) rfl (.inl rfl)) (ja_cons j_int (ja_cons j_int (ja_cons j_int ja_nil))))))
  (jb_cons (js_for rfl (passes_of rfl) rfl (ji_range1 rfl T.free_range (ja_cons j_int ja_nil)) (jg_name (i := 2) SC.nd rfl (.inl rfl)) (jb_cons (js_asg rfl (j_unO (jo_calIO (i := 1) (ok__law_data T) hr (by decide) rfl tk rfl (.inr (.inl rfl)) (ja_cons j_int ja_nil))) (jg_tup rfl (jgs_cons (jg_name (i := 3) SC.nd rfl (.inl rfl)) (jgs_cons (jg_name (i := 6) SC.nd rfl (.inl rfl)) jgs_nil))))
  (jb_cons (js_set (i := 4) rfl SC.nd rfl (.inl rfl) (j_unO (jo_cal (ok__law_block T) hr (by decide) rfl tk (ja_cons (j_var (i := 3) rfl (.inl rfl)) (ja_cons (j_var (i := 6) rfl (.inl rfl)) ja_nil)))))
  (jb_one (js_for rfl (passes_of rfl) rfl (ji_range1 rfl T.free_range (ja_cons j_int ja_nil)) (jg_name (i := 5) SC.nd rfl (.inl rfl)) (jb_one (js_if (jt_not (jt_truth (j_unO (jo_cal (ok__law_alike T) hr (by decide) rfl tk (ja_cons (j_unO (jo_cal (ok_encode_block T) hr (by decide) rfl tk (ja_cons (j_var (i := 3) rfl (.inl rfl)) (ja_cons (j_var (i := 6) rfl (.inl rfl)) ja_nil)))) (ja_cons (j_var (i := 4) rfl (.inl rfl)) ja_nil)))))) (jb_one (js_ret j_bl)) jb_nil)))))))
  (jb_cons (js_set (i := 3) rfl SC.nd rfl (.inl rfl) (j_callTy call_tuple_of o_tup rfl T.free_tuple bb_tuple (ja_cons (j_unO (jo_lc (own := [("_law_k", 7)]) rfl SC.nd (ji_range1 rfl T.free_range (ja_cons j_int ja_nil)) (blkOk_fr (N := ["_law_script", "_law_row", "_law_turn", "_law_data_here", "_law_due", "_law_once", "_law_checks", "_law_k"]) ["_law_row"] (by decide +kernel) ⟨.inl rfl, trivial⟩) rfl (fun _ _ _ _ _ => (jg_name (i := 7) SC.nd rfl (.inl rfl))) (fun _ _ _ _ _ => jts_nil) (fun _ _ _ _ _ => (j_unO (jo_calIO (i := 1) (ok__law_taken T) hr (by decide) rfl takes0 rfl (.inr (.inl rfl)) (ja_cons j_int ja_nil)))))) ja_nil)))
  (jb_one (js_ret (j_and (j_cmp (op_eqX (room64 hr)) o_eqX (j_unO (jo_cal (ok_encode_block T) hr (by decide) rfl tk (ja_cons (j_var (i := 3) rfl (.inl rfl)) (ja_cons j_int ja_nil)))) (j_var (i := 3) rfl (.inl rfl)) (nomark _)) (j_one (j_cmp (op_eqX (room64 hr)) o_eqX (j_unO (jo_cal (ok_encode_block T) hr (by decide) rfl tk (ja_cons (j_slice (j_var (i := 3) rfl (.inl rfl)) jp_none (jp_some j_int)) (ja_cons j_int ja_nil)))) (j_op op_mulX o_mulX (j_slice (j_var (i := 3) rfl (.inl rfl)) jp_none (jp_some j_int)) j_int) (nomark _)))))))))
/-- what the law comes to -/
def LawTrue : Prop := ∀ ns : List Int, ns.length ≤ 63 → f_law [.lst (ns.map .int)] = some (.ok (.bl true, .z))
theorem quiet {P : Program} {w : World} {K : Frag} {mg : Str → Option Value} {base : Heap} {k : Nat} {f : Addr} {fd : FuncData} {ps : List Str} {sp : Sp} (F : FnOk P w K mg base (L2.CX P w) k f fd ps sp) : FnOk P w K mg base CX0 k f fd ps (fun vs H Q _ => sp vs H Q fun _ _ _ => False) :=
  ⟨fun vs H Q E h => F.len _ _ _ _ h, fun A outer s H args us vs Q E hr e0 hb r h => codeAny_mono (F.run A outer s H args us vs Q (fun _ _ _ => False) hr e0 hb r h) fun r s' q => by
    cases r with
    | ok fl => cases fl <;> exact q
    | error e =>
      obtain ⟨_, _, _, _, _, _, _, _, _, _, _, _, z⟩ := q
      exact z.elim⟩
theorem reps_ints {K : Frag} {F : Hp} : ∀ ns : List Int, Reps K F (ns.map D.int) (ns.map V.int)
  | [] => rfl
  | n :: ns => ⟨.int n, _, rfl, rfl, reps_ints ns⟩
end G
open PySem PySem.W PySem.Calls PyProof.Rows
theorem G.holds_of (LT : G.LawTrue) : PySem.Challenge.rw_squaremark_k02_check_symbols.Holds := by
  w_on; o_law
  refine HandSHeadRun.head_any (r := OpenLaw.row PySem.Challenge.rw_squaremark_k02_check_symbols) (q := view (OpenLaw.row PySem.Challenge.rw_squaremark_k02_check_symbols).prog [23]) (H := G.hk) (ob := G.ob) (M := 20000) (loose := G.loose) (d := HandSHeadRun.topDef (OpenLaw.row PySem.Challenge.rw_squaremark_k02_check_symbols).prog 23) (kwd := []) G.ob_eq
    (by kernel_rfl) (fun s => by kernel_rfl) G.run (by kernel_rfl) (by kernel_rfl) (by kernel_rfl) (by rfl) (by first | assumption | decide +kernel) (by decide +kernel) ⟨rfl, rfl, rfl, rfl, rfl, by decide +kernel⟩ ?hw ?hc
  case hw => w_witness2
  case hc =>
    refine L2.walk_ofE (l := PySem.Challenge.rw_squaremark_k02_check_symbols) (n := 63) (k := 7) (x := "_law_script") (CX := L2.CX0) rfl (by decide) (by kernel_rfl) ⟨rfl, by decide, by decide⟩ ?F (fun _ _ _ _ z => z)
    intro w mg fa h Y Gm hmg0
    obtain ⟨K, KX, c, hx⟩ := Y
    have hmg : mg ("law" : PySem.Str) = some (.ref fa) := by
      have e : (HandSHeadRun.topDef (OpenLaw.row PySem.Challenge.rw_squaremark_k02_check_symbols).prog 23).name = ("law" : PySem.Str) := by kernel_rfl
      rw [← e]
      exact hmg0
    have T := G.tx KX Gm c hx
    obtain ⟨fd, F⟩ := T.d_law
    have e := hmg.symm.trans T.g_law
    cases e
    have b := L2.FunD.bindsA (ps := ["_law_script"]) F fun _ _ _ _ _ _ us hl => match us, hl with | [_], _ => rfl
    refine ⟨K, fd, fun vs H Q _ => Mn.spF K mg 1 G.f_law vs H Q fun _ _ _ => False, KX, fun s v => b s [v] rfl, fun H a ns hl hO hS => ?_, fun base KB GB => ?_⟩
    · refine ⟨[.lst (ns.map .int)], [], (fun _ z => nomatch z), ⟨.ref a, [], rfl, ⟨a, _, rfl, by rw [Mn.mask_nil]; exact hS, G.reps_ints ns⟩, rfl⟩, rfl, ?_⟩
      rw [LT ns hl]
      intro S' H' v g r
      obtain ⟨v', S1, S2, e1, e2, h1, h2⟩ := r.sl
      cases e1
      exact h1.2
    · exact G.quiet (Mn.fnF F G.sc_law fun cdv A outer s H E hr => G.bd_law T hr)
end
section
namespace G
open Mn
theorem lt30_7 : lt30 7 = true := by decide
theorem sm48271 (i : Int) : (sm i || sm 48271) = true := by
  rw [show sm 48271 = true by decide, Bool.or_true]
theorem nat10 : decide ((10 : Int).natAbs < 18446744073709551616) = true := by decide
/-- the law's row: the script, its place, the mixed number, the rest of a great cell -/
def row (xs : List Int) (p s c : Int) : D × Kd := (.lst [.lst (xs.map .int), .int p, .int s, .int c], .s .z)
theorem taken1 {xs : List Int} {p s c many : Int} (hc : 0 < c) (hm : 0 < many) (hm2 : lt30 many = true) :
  f__law_taken (row xs p s c) [.int many] = some (.ok (.int (c % many), .z), row xs p s (c / many)) := by
  simp only [f__law_taken, semIO, b__law_taken, mu0, row, ↓bnd_def, ↓giv_a, ↓opt_a, ↓mSeq_a, ↓mIf_a, ↓mB_a, ↓mT_a, ↓m1_a, ↓mN_a, ↓m2_a, ↓mCh_a, ↓mAnd_a, ↓mOr_a, ↓vAnd_a, ↓vOr_a, ↓vNot_a, ↓vB_t, ↓vB_f, ↓vB0_t, ↓vB0_f, ↓cond_t, ↓cond_f, ↓unO_a, ↓toO_a, ↓mCall_a, ↓has_a, ↓mCallIO_a, ↓aNil_a, ↓aCons_a, ↓rdv_a, ↓mIxB_a, ↓mLenB_a, ↓mStIx_a, ↓put_a, ↓mSet_a, ↓mSetO_a, ↓mAug_a, ↓mRet_a, ↓mRetO_a, ↓mDrop_a, ↓mRaise_a, ↓mLstO_a, ↓mPar_a, ↓mFor_a, ↓mRg_a, ↓mIt_a, ↓mAsg_a, ↓mLc_a, ↓mItA_a, ↓hasL_a, ↓mUp1_a, ↓mSl_a, ↓mPart_a, ↓mJoin_a, ↓mDispO_a, ↓mPairs_n, ↓mPairs_c, ↓mListO_a, ↓mRepL_a, wp_nil, wp_cons, lg_s, RsQ_ok, sole_a, enumF_a, itemsD_l, itemsD_t, itemsD_s, zipF_l, zipF_t, upL_a, fApp_a, asI2_i, gSl_l, gSl_t, gSl_s, gAddX_i, gAddX_s, gAddX_t, gAddX_l, gMulX_i, gMulX_s, gMulX_t, gRepL_a, ixX_l, ixX_t, ixX_s, ixD_s, gEqX_a, gNeX_a, eqX_i, eqX_b, eqX_s, eqX_n, eqX_ni, eqX_in, eqX_t, eqX_l, gIn_a, gNotIn_a, gInX_s, sgnIn_a, gInX_t, gInX_l, gIsN_a, gNotN_a, isNon_n, isNon_i, isNon_t, isNon_l, isNon_s, asStr_a, gJoin_l, gJoin_t, gSum_a, gAll_a, gMax2_a, gMin2_a, gAbs_a, gTup_l, gTup_t, gLst_l, gLst_t, gRev_t, gRev_l, gRev_s, lcW_a, isTy_ds, ↓mForD_a, ↓mDictEnum_a, ↓mListRng_a, dw_a, dwv_d, qtS_a, dictEnum_l, dictEnum_t, lsRng_a, gShr_a, gShl_a, Rs_ok, Rs_exn, atI_0, ixN_0, atI_1, ixN_1, atI_2, ixN_2, atI_3, ixN_3, atI_4, ixN_4, atI_5, ixN_5, atI_6, ixN_6, atI_7, ixN_7, atI_8, ixN_8, atI_9, ixN_9, atI_10, ixN_10, atI_11, ixN_11, atI_12, ixN_12, atI_13, ixN_13, atI_14, ixN_14, atI_15, ixN_15, atI_16, ixN_16, sq_nx, sq_ct, sq_bk, sq_rt, sq_ex, lp_nx, lp_ct, lp_bk, lp_rt, lp_ex, tn_s, rd_z, rd_s, hs_s, cl_s, ci_s, cj_s, bw_s, brw_a, br_z, br_l, ownL_a, ow_l, ag_s, op_s, asB_b, asI_i, stL_a, gN_a, gAdd_a, gSub_a, gXor_a, gAnd_a, gLt_a, gLe_a, gGt_a, gGe_a, gMul_a, gDiv_a, gMod_a, gPow_a, gNeg_a, gNot_a, gEq_a, gNe_a, eqS_i, eqS_b, eqS_s, eqS_n, eqS_ni, eqS_in, lenD_l, lenD_t, lenD_s, intD_i, intD_b, n1_a, lim_a, ixD_l, ixD_t, truth_n, truth_b, truth_i, truth_t, truth_l, isTy_ii, isTy_ib, isTy_in, isTy_is, isTy_it, isTy_il, isTy_bi, isTy_bb, isTy_ss, isTy_si, isTy_sb, isTy_sn, isTy_st, isTy_sl, isTy_tt, isTy_ti, isTy_tb, isTy_tn, isTy_ts, isTy_tl, isTy_ll, isTy_li, isTy_lb, isTy_ln, isTy_ls, isTy_lt, endsOf_r, endsOf_n, endsOf_e, endsIO_r, endsIO_n, endsIO_e, rng1_a, rng2_a, cond_true, cond_false, Bool.and_true, Bool.true_and, Bool.and_false, Bool.false_and, Bool.or_true, Bool.true_or, Bool.or_false, Bool.false_or, Bool.not_true, Bool.not_false, decide_true, decide_false, Bool.false_eq_true, Bool.true_eq_false, if_true, if_false, eq_self, List.getElem?_cons_zero, List.getElem?_cons_succ, List.set_cons_zero, List.set_cons_succ, List.length_cons, List.length_nil, List.length_set, List.map_cons, List.map_nil, List.replicate, List.append_nil, List.nil_append, List.cons_append, Option.bind_some, Option.bind_none, Option.map_some, Option.map_none, Nat.reduceAdd, Nat.reduceSub, Nat.reduceLT, Nat.reduceLeDiff, Nat.reduceEqDiff, ↓reduceIte, hc, hm, hm2]
theorem taken2 {xs : List Int} {p s c many : Int} (hc : ¬ 0 < c) (hp : (xs.length : Int) < p + 1) (hm : 0 < many) :
  f__law_taken (row xs p s c) [.int many] = some (.ok (.int ((s * 48271 + 11) % 2147483647 / 7 % many), .z), row xs (p + 1) ((s * 48271 + 11) % 2147483647) c) := by
  simp only [f__law_taken, semIO, b__law_taken, mu0, row, ↓bnd_def, ↓giv_a, ↓opt_a, ↓mSeq_a, ↓mIf_a, ↓mB_a, ↓mT_a, ↓m1_a, ↓mN_a, ↓m2_a, ↓mCh_a, ↓mAnd_a, ↓mOr_a, ↓vAnd_a, ↓vOr_a, ↓vNot_a, ↓vB_t, ↓vB_f, ↓vB0_t, ↓vB0_f, ↓cond_t, ↓cond_f, ↓unO_a, ↓toO_a, ↓mCall_a, ↓has_a, ↓mCallIO_a, ↓aNil_a, ↓aCons_a, ↓rdv_a, ↓mIxB_a, ↓mLenB_a, ↓mStIx_a, ↓put_a, ↓mSet_a, ↓mSetO_a, ↓mAug_a, ↓mRet_a, ↓mRetO_a, ↓mDrop_a, ↓mRaise_a, ↓mLstO_a, ↓mPar_a, ↓mFor_a, ↓mRg_a, ↓mIt_a, ↓mAsg_a, ↓mLc_a, ↓mItA_a, ↓hasL_a, ↓mUp1_a, ↓mSl_a, ↓mPart_a, ↓mJoin_a, ↓mDispO_a, ↓mPairs_n, ↓mPairs_c, ↓mListO_a, ↓mRepL_a, wp_nil, wp_cons, lg_s, RsQ_ok, sole_a, enumF_a, itemsD_l, itemsD_t, itemsD_s, zipF_l, zipF_t, upL_a, fApp_a, asI2_i, gSl_l, gSl_t, gSl_s, gAddX_i, gAddX_s, gAddX_t, gAddX_l, gMulX_i, gMulX_s, gMulX_t, gRepL_a, ixX_l, ixX_t, ixX_s, ixD_s, gEqX_a, gNeX_a, eqX_i, eqX_b, eqX_s, eqX_n, eqX_ni, eqX_in, eqX_t, eqX_l, gIn_a, gNotIn_a, gInX_s, sgnIn_a, gInX_t, gInX_l, gIsN_a, gNotN_a, isNon_n, isNon_i, isNon_t, isNon_l, isNon_s, asStr_a, gJoin_l, gJoin_t, gSum_a, gAll_a, gMax2_a, gMin2_a, gAbs_a, gTup_l, gTup_t, gLst_l, gLst_t, gRev_t, gRev_l, gRev_s, lcW_a, isTy_ds, ↓mForD_a, ↓mDictEnum_a, ↓mListRng_a, dw_a, dwv_d, qtS_a, dictEnum_l, dictEnum_t, lsRng_a, gShr_a, gShl_a, Rs_ok, Rs_exn, atI_0, ixN_0, atI_1, ixN_1, atI_2, ixN_2, atI_3, ixN_3, atI_4, ixN_4, atI_5, ixN_5, atI_6, ixN_6, atI_7, ixN_7, atI_8, ixN_8, atI_9, ixN_9, atI_10, ixN_10, atI_11, ixN_11, atI_12, ixN_12, atI_13, ixN_13, atI_14, ixN_14, atI_15, ixN_15, atI_16, ixN_16, sq_nx, sq_ct, sq_bk, sq_rt, sq_ex, lp_nx, lp_ct, lp_bk, lp_rt, lp_ex, tn_s, rd_z, rd_s, hs_s, cl_s, ci_s, cj_s, bw_s, brw_a, br_z, br_l, ownL_a, ow_l, ag_s, op_s, asB_b, asI_i, stL_a, gN_a, gAdd_a, gSub_a, gXor_a, gAnd_a, gLt_a, gLe_a, gGt_a, gGe_a, gMul_a, gDiv_a, gMod_a, gPow_a, gNeg_a, gNot_a, gEq_a, gNe_a, eqS_i, eqS_b, eqS_s, eqS_n, eqS_ni, eqS_in, lenD_l, lenD_t, lenD_s, intD_i, intD_b, n1_a, lim_a, ixD_l, ixD_t, truth_n, truth_b, truth_i, truth_t, truth_l, isTy_ii, isTy_ib, isTy_in, isTy_is, isTy_it, isTy_il, isTy_bi, isTy_bb, isTy_ss, isTy_si, isTy_sb, isTy_sn, isTy_st, isTy_sl, isTy_tt, isTy_ti, isTy_tb, isTy_tn, isTy_ts, isTy_tl, isTy_ll, isTy_li, isTy_lb, isTy_ln, isTy_ls, isTy_lt, endsOf_r, endsOf_n, endsOf_e, endsIO_r, endsIO_n, endsIO_e, rng1_a, rng2_a, cond_true, cond_false, Bool.and_true, Bool.true_and, Bool.and_false, Bool.false_and, Bool.or_true, Bool.true_or, Bool.or_false, Bool.false_or, Bool.not_true, Bool.not_false, decide_true, decide_false, Bool.false_eq_true, Bool.true_eq_false, if_true, if_false, eq_self, List.getElem?_cons_zero, List.getElem?_cons_succ, List.set_cons_zero, List.set_cons_succ, List.length_cons, List.length_nil, List.length_set, List.map_cons, List.map_nil, List.replicate, List.append_nil, List.nil_append, List.cons_append, Option.bind_some, Option.bind_none, Option.map_some, Option.map_none, Nat.reduceAdd, Nat.reduceSub, Nat.reduceLT, Nat.reduceLeDiff, Nat.reduceEqDiff, ↓reduceIte, hc, hm, hp, List.length_map, sm48271, Int.reduceLT, lt30_7]
theorem taken3 {xs : List Int} {p s c many x : Int} (hc : ¬ 0 < c) (hp : ¬ (xs.length : Int) < p + 1) (h0 : 0 ≤ p) (hx : xs[p.toNat]? = some x) (hm : 0 < many) (hm2 : lt30 many = true) (hb : 1000000000000000000 ≤ x) :
  f__law_taken (row xs p s c) [.int many] = some (.ok (.int (x % many), .z), row xs (p + 1) ((s * 48271 + x + 11) % 2147483647) (x / many)) := by
  have e1 : p + 1 - 1 = p := by omega
  have e2 : L2.atI (xs.map D.int) p = some (.int x) := by
    rw [atI_at h0 (by rw [List.length_map]; omega), List.getElem?_map, hx]
    rfl
  simp only [f__law_taken, semIO, b__law_taken, mu0, row, ↓bnd_def, ↓giv_a, ↓opt_a, ↓mSeq_a, ↓mIf_a, ↓mB_a, ↓mT_a, ↓m1_a, ↓mN_a, ↓m2_a, ↓mCh_a, ↓mAnd_a, ↓mOr_a, ↓vAnd_a, ↓vOr_a, ↓vNot_a, ↓vB_t, ↓vB_f, ↓vB0_t, ↓vB0_f, ↓cond_t, ↓cond_f, ↓unO_a, ↓toO_a, ↓mCall_a, ↓has_a, ↓mCallIO_a, ↓aNil_a, ↓aCons_a, ↓rdv_a, ↓mIxB_a, ↓mLenB_a, ↓mStIx_a, ↓put_a, ↓mSet_a, ↓mSetO_a, ↓mAug_a, ↓mRet_a, ↓mRetO_a, ↓mDrop_a, ↓mRaise_a, ↓mLstO_a, ↓mPar_a, ↓mFor_a, ↓mRg_a, ↓mIt_a, ↓mAsg_a, ↓mLc_a, ↓mItA_a, ↓hasL_a, ↓mUp1_a, ↓mSl_a, ↓mPart_a, ↓mJoin_a, ↓mDispO_a, ↓mPairs_n, ↓mPairs_c, ↓mListO_a, ↓mRepL_a, wp_nil, wp_cons, lg_s, RsQ_ok, sole_a, enumF_a, itemsD_l, itemsD_t, itemsD_s, zipF_l, zipF_t, upL_a, fApp_a, asI2_i, gSl_l, gSl_t, gSl_s, gAddX_i, gAddX_s, gAddX_t, gAddX_l, gMulX_i, gMulX_s, gMulX_t, gRepL_a, ixX_l, ixX_t, ixX_s, ixD_s, gEqX_a, gNeX_a, eqX_i, eqX_b, eqX_s, eqX_n, eqX_ni, eqX_in, eqX_t, eqX_l, gIn_a, gNotIn_a, gInX_s, sgnIn_a, gInX_t, gInX_l, gIsN_a, gNotN_a, isNon_n, isNon_i, isNon_t, isNon_l, isNon_s, asStr_a, gJoin_l, gJoin_t, gSum_a, gAll_a, gMax2_a, gMin2_a, gAbs_a, gTup_l, gTup_t, gLst_l, gLst_t, gRev_t, gRev_l, gRev_s, lcW_a, isTy_ds, ↓mForD_a, ↓mDictEnum_a, ↓mListRng_a, dw_a, dwv_d, qtS_a, dictEnum_l, dictEnum_t, lsRng_a, gShr_a, gShl_a, Rs_ok, Rs_exn, atI_0, ixN_0, atI_1, ixN_1, atI_2, ixN_2, atI_3, ixN_3, atI_4, ixN_4, atI_5, ixN_5, atI_6, ixN_6, atI_7, ixN_7, atI_8, ixN_8, atI_9, ixN_9, atI_10, ixN_10, atI_11, ixN_11, atI_12, ixN_12, atI_13, ixN_13, atI_14, ixN_14, atI_15, ixN_15, atI_16, ixN_16, sq_nx, sq_ct, sq_bk, sq_rt, sq_ex, lp_nx, lp_ct, lp_bk, lp_rt, lp_ex, tn_s, rd_z, rd_s, hs_s, cl_s, ci_s, cj_s, bw_s, brw_a, br_z, br_l, ownL_a, ow_l, ag_s, op_s, asB_b, asI_i, stL_a, gN_a, gAdd_a, gSub_a, gXor_a, gAnd_a, gLt_a, gLe_a, gGt_a, gGe_a, gMul_a, gDiv_a, gMod_a, gPow_a, gNeg_a, gNot_a, gEq_a, gNe_a, eqS_i, eqS_b, eqS_s, eqS_n, eqS_ni, eqS_in, lenD_l, lenD_t, lenD_s, intD_i, intD_b, n1_a, lim_a, ixD_l, ixD_t, truth_n, truth_b, truth_i, truth_t, truth_l, isTy_ii, isTy_ib, isTy_in, isTy_is, isTy_it, isTy_il, isTy_bi, isTy_bb, isTy_ss, isTy_si, isTy_sb, isTy_sn, isTy_st, isTy_sl, isTy_tt, isTy_ti, isTy_tb, isTy_tn, isTy_ts, isTy_tl, isTy_ll, isTy_li, isTy_lb, isTy_ln, isTy_ls, isTy_lt, endsOf_r, endsOf_n, endsOf_e, endsIO_r, endsIO_n, endsIO_e, rng1_a, rng2_a, cond_true, cond_false, Bool.and_true, Bool.true_and, Bool.and_false, Bool.false_and, Bool.or_true, Bool.true_or, Bool.or_false, Bool.false_or, Bool.not_true, Bool.not_false, decide_true, decide_false, Bool.false_eq_true, Bool.true_eq_false, if_true, if_false, eq_self, List.getElem?_cons_zero, List.getElem?_cons_succ, List.set_cons_zero, List.set_cons_succ, List.length_cons, List.length_nil, List.length_set, List.map_cons, List.map_nil, List.replicate, List.append_nil, List.nil_append, List.cons_append, Option.bind_some, Option.bind_none, Option.map_some, Option.map_none, Nat.reduceAdd, Nat.reduceSub, Nat.reduceLT, Nat.reduceLeDiff, Nat.reduceEqDiff, ↓reduceIte, hc, hm, hm2, hp, List.length_map, sm48271, Int.reduceLT, Int.reduceLE, e1, e2, hb, nat10, Int.reduceToNat, Int.reducePow]
theorem taken4 {xs : List Int} {p s c many x : Int} (hc : ¬ 0 < c) (hp : ¬ (xs.length : Int) < p + 1) (h0 : 0 ≤ p) (hx : xs[p.toNat]? = some x) (hm : 0 < many) (hm2 : lt30 many = true) (hb : ¬ 1000000000000000000 ≤ x) :
  f__law_taken (row xs p s c) [.int many] = some (.ok (.int (x % many), .z), row xs (p + 1) ((s * 48271 + x + 11) % 2147483647) c) := by
  have e1 : p + 1 - 1 = p := by omega
  have e2 : L2.atI (xs.map D.int) p = some (.int x) := by
    rw [atI_at h0 (by rw [List.length_map]; omega), List.getElem?_map, hx]
    rfl
  simp only [f__law_taken, semIO, b__law_taken, mu0, row, ↓bnd_def, ↓giv_a, ↓opt_a, ↓mSeq_a, ↓mIf_a, ↓mB_a, ↓mT_a, ↓m1_a, ↓mN_a, ↓m2_a, ↓mCh_a, ↓mAnd_a, ↓mOr_a, ↓vAnd_a, ↓vOr_a, ↓vNot_a, ↓vB_t, ↓vB_f, ↓vB0_t, ↓vB0_f, ↓cond_t, ↓cond_f, ↓unO_a, ↓toO_a, ↓mCall_a, ↓has_a, ↓mCallIO_a, ↓aNil_a, ↓aCons_a, ↓rdv_a, ↓mIxB_a, ↓mLenB_a, ↓mStIx_a, ↓put_a, ↓mSet_a, ↓mSetO_a, ↓mAug_a, ↓mRet_a, ↓mRetO_a, ↓mDrop_a, ↓mRaise_a, ↓mLstO_a, ↓mPar_a, ↓mFor_a, ↓mRg_a, ↓mIt_a, ↓mAsg_a, ↓mLc_a, ↓mItA_a, ↓hasL_a, ↓mUp1_a, ↓mSl_a, ↓mPart_a, ↓mJoin_a, ↓mDispO_a, ↓mPairs_n, ↓mPairs_c, ↓mListO_a, ↓mRepL_a, wp_nil, wp_cons, lg_s, RsQ_ok, sole_a, enumF_a, itemsD_l, itemsD_t, itemsD_s, zipF_l, zipF_t, upL_a, fApp_a, asI2_i, gSl_l, gSl_t, gSl_s, gAddX_i, gAddX_s, gAddX_t, gAddX_l, gMulX_i, gMulX_s, gMulX_t, gRepL_a, ixX_l, ixX_t, ixX_s, ixD_s, gEqX_a, gNeX_a, eqX_i, eqX_b, eqX_s, eqX_n, eqX_ni, eqX_in, eqX_t, eqX_l, gIn_a, gNotIn_a, gInX_s, sgnIn_a, gInX_t, gInX_l, gIsN_a, gNotN_a, isNon_n, isNon_i, isNon_t, isNon_l, isNon_s, asStr_a, gJoin_l, gJoin_t, gSum_a, gAll_a, gMax2_a, gMin2_a, gAbs_a, gTup_l, gTup_t, gLst_l, gLst_t, gRev_t, gRev_l, gRev_s, lcW_a, isTy_ds, ↓mForD_a, ↓mDictEnum_a, ↓mListRng_a, dw_a, dwv_d, qtS_a, dictEnum_l, dictEnum_t, lsRng_a, gShr_a, gShl_a, Rs_ok, Rs_exn, atI_0, ixN_0, atI_1, ixN_1, atI_2, ixN_2, atI_3, ixN_3, atI_4, ixN_4, atI_5, ixN_5, atI_6, ixN_6, atI_7, ixN_7, atI_8, ixN_8, atI_9, ixN_9, atI_10, ixN_10, atI_11, ixN_11, atI_12, ixN_12, atI_13, ixN_13, atI_14, ixN_14, atI_15, ixN_15, atI_16, ixN_16, sq_nx, sq_ct, sq_bk, sq_rt, sq_ex, lp_nx, lp_ct, lp_bk, lp_rt, lp_ex, tn_s, rd_z, rd_s, hs_s, cl_s, ci_s, cj_s, bw_s, brw_a, br_z, br_l, ownL_a, ow_l, ag_s, op_s, asB_b, asI_i, stL_a, gN_a, gAdd_a, gSub_a, gXor_a, gAnd_a, gLt_a, gLe_a, gGt_a, gGe_a, gMul_a, gDiv_a, gMod_a, gPow_a, gNeg_a, gNot_a, gEq_a, gNe_a, eqS_i, eqS_b, eqS_s, eqS_n, eqS_ni, eqS_in, lenD_l, lenD_t, lenD_s, intD_i, intD_b, n1_a, lim_a, ixD_l, ixD_t, truth_n, truth_b, truth_i, truth_t, truth_l, isTy_ii, isTy_ib, isTy_in, isTy_is, isTy_it, isTy_il, isTy_bi, isTy_bb, isTy_ss, isTy_si, isTy_sb, isTy_sn, isTy_st, isTy_sl, isTy_tt, isTy_ti, isTy_tb, isTy_tn, isTy_ts, isTy_tl, isTy_ll, isTy_li, isTy_lb, isTy_ln, isTy_ls, isTy_lt, endsOf_r, endsOf_n, endsOf_e, endsIO_r, endsIO_n, endsIO_e, rng1_a, rng2_a, cond_true, cond_false, Bool.and_true, Bool.true_and, Bool.and_false, Bool.false_and, Bool.or_true, Bool.true_or, Bool.or_false, Bool.false_or, Bool.not_true, Bool.not_false, decide_true, decide_false, Bool.false_eq_true, Bool.true_eq_false, if_true, if_false, eq_self, List.getElem?_cons_zero, List.getElem?_cons_succ, List.set_cons_zero, List.set_cons_succ, List.length_cons, List.length_nil, List.length_set, List.map_cons, List.map_nil, List.replicate, List.append_nil, List.nil_append, List.cons_append, Option.bind_some, Option.bind_none, Option.map_some, Option.map_none, Nat.reduceAdd, Nat.reduceSub, Nat.reduceLT, Nat.reduceLeDiff, Nat.reduceEqDiff, ↓reduceIte, hc, hm, hm2, hp, List.length_map, sm48271, Int.reduceLT, Int.reduceLE, e1, e2, hb, nat10, Int.reduceToNat, Int.reducePow]
theorem taken (xs : List Int) (p s c : Int) {many : Int} (h0 : 0 ≤ p) (hm : 0 < many) (hm2 : lt30 many = true) : ∃ r p' s' c', 0 ≤ r ∧ r < many ∧ 0 ≤ p' ∧ f__law_taken (row xs p s c) [.int many] = some (.ok (.int r, .z), row xs p' s' c') := by
  have fin : ∀ y : Int, 0 ≤ y % many ∧ y % many < many := fun y => ⟨Int.emod_nonneg _ (by omega), Int.emod_lt_of_pos _ hm⟩
  by_cases hc : 0 < c
  · exact ⟨_, _, _, _, (fin _).1, (fin _).2, h0, taken1 hc hm hm2⟩
  · by_cases hp : (xs.length : Int) < p + 1
    · exact ⟨_, _, _, _, (fin _).1, (fin _).2, by omega, taken2 hc hp hm⟩
    · have hl : p.toNat < xs.length := by omega
      by_cases hb : 1000000000000000000 ≤ xs[p.toNat]
      · exact ⟨_, _, _, _, (fin _).1, (fin _).2, by omega, taken3 hc hp h0 (List.getElem?_eq_getElem hl) hm hm2 hb⟩
      · exact ⟨_, _, _, _, (fin _).1, (fin _).2, by omega, taken4 hc hp h0 (List.getElem?_eq_getElem hl) hm hm2 hb⟩

theorem drawn (xs : List Int) (p s c : Int) {many : Nat} (h0 : 0 ≤ p) (hm : 0 < many) (hm2 : many < 1000) : ∃ r : Nat, ∃ p' s' c', r < many ∧ 0 ≤ p' ∧ f__law_taken (row xs p s c) [.int (many : Int)] = some (.ok (.int (r : Int), .z), row xs p' s' c') := by
  obtain ⟨r, p', s', c', h1, h2, h3, e⟩ := taken xs p s c (many := (many : Int)) h0 (by omega) (lt30_of (by omega) (by omega))
  exact ⟨r.toNat, p', s', c', by omega, h3, by rw [show ((r.toNat : Nat) : Int) = r by omega]; exact e⟩
/-! ### the field -/
def gx (a : Nat) : Nat := if 8 ≤ a then (2 * a - 16) ^^^ 3 else 2 * a
def gm (a b : Nat) : Nat := (if b % 2 = 1 then a else 0) ^^^ (if b / 2 % 2 = 1 then gx a else 0) ^^^ (if b / 4 % 2 = 1 then gx (gx a) else 0) ^^^ (if b / 8 % 2 = 1 then gx (gx (gx a)) else 0)
def gi (a : Nat) : Nat := [0, 1, 9, 14, 13, 11, 7, 6, 15, 2, 12, 5, 10, 4, 3, 8].getD a 0
theorem prod_all : ∀ a b : _root_.Fin 16, f_product [.int (a.val : Int), .int (b.val : Int)] = some (.ok (.int ((gm a.val b.val : Nat) : Int), .z)) := by decide +kernel
theorem inv_all : ∀ b : _root_.Fin 16, b.val ≠ 0 → f_inverse [.int (b.val : Int)] = some (.ok (.int ((gi b.val : Nat) : Int), .z)) := by decide +kernel
theorem lprod_all : ∀ a b : _root_.Fin 16, f__law_product [.int (a.val : Int), .int (b.val : Int)] = some (.ok (.int ((gm a.val b.val : Nat) : Int), .z)) := by decide +kernel
theorem gm_lt_all : ∀ a b : _root_.Fin 16, gm a.val b.val < 16 := by decide +kernel
theorem gi_lt_all : ∀ a : _root_.Fin 16, gi a.val < 16 := by decide +kernel
theorem gm_nz_all : ∀ b c : _root_.Fin 16, b.val ≠ 0 → c.val ≠ 0 → gm b.val c.val ≠ 0 := by decide +kernel
theorem quo_all : ∀ a b : _root_.Fin 16, b.val ≠ 0 → ((List.range 16).filter fun m => gm m b.val == a.val) = [gm a.val (gi b.val)] := by decide +kernel
section
variable {a b : Nat} (ha : a < 16) (hb : b < 16)
include ha
theorem gi_lt : gi a < 16 := gi_lt_all ⟨a, ha⟩
theorem inv_eq (h : a ≠ 0) : f_inverse [.int (a : Int)] = some (.ok (.int ((gi a : Nat) : Int), .z)) := inv_all ⟨a, ha⟩ h
include hb
theorem gm_lt : gm a b < 16 := gm_lt_all ⟨a, ha⟩ ⟨b, hb⟩
theorem xor_lt : a ^^^ b < 16 := Nat.xor_lt_two_pow (n := 4) ha hb
theorem prod_eq : f_product [.int (a : Int), .int (b : Int)] = some (.ok (.int ((gm a b : Nat) : Int), .z)) := prod_all ⟨a, ha⟩ ⟨b, hb⟩
theorem lprod_eq : f__law_product [.int (a : Int), .int (b : Int)] = some (.ok (.int ((gm a b : Nat) : Int), .z)) := lprod_all ⟨a, ha⟩ ⟨b, hb⟩
theorem gm_nz (h : a ≠ 0) (h2 : b ≠ 0) : gm a b ≠ 0 := gm_nz_all ⟨a, ha⟩ ⟨b, hb⟩ h h2
theorem quo (h : b ≠ 0) : ((List.range 16).filter fun m => gm m b == a) = [gm a (gi b)] := quo_all ⟨a, ha⟩ ⟨b, hb⟩ h
end
end G
end
section
namespace G
open Mn
theorem turns_list {ι S : Type} {g : TgE} {b : MS} (G : ι → D) (I : S → M → Prop) (step : S → ι → S) : ∀ (L : List ι) (s : S) (μ : M), I s μ → (∀ s μ i, I s μ → i ∈ L → ∃ μ1, g (G i, .z) μ = some μ1 ∧ ∃ μ2, I (step s i) μ2 ∧ (b μ1 = some (.ok .nx, μ2) ∨ b μ1 = some (.ok .cont, μ2))) →
    ∃ μ2, mTurns g b (L.map G) μ = some (.ok .nx, μ2) ∧ I (L.foldl step s) μ2
  | [], s, μ, h, _ => ⟨μ, rfl, h⟩
  | i :: L, s, μ, h, hs => by
    obtain ⟨μ1, e1, μ2, h2, e2⟩ := hs s μ i h List.mem_cons_self
    obtain ⟨μ3, e3, h3⟩ := turns_list (g := g) (b := b) G I step L (step s i) μ2 h2 fun s μ j q m => hs s μ j q (List.mem_cons_of_mem _ m)
    refine ⟨μ3, ?_, h3⟩
    rw [List.map_cons, mTurns_c, e1]
    rcases e2 with e2 | e2
    · show lp (b μ1) _ = _
      rw [e2]
      exact e3
    · show lp (b μ1) _ = _
      rw [e2]
      exact e3
theorem xor_all : ∀ a b : _root_.Fin 16, PySem.Builtin.bitXor (a.val : Int) (b.val : Int) = ((a.val ^^^ b.val : Nat) : Int) ∧ (a.val ≠ b.val → a.val ^^^ b.val ≠ 0) := by decide +kernel
theorem xor_i {a b : Nat} (ha : a < 16) (hb : b < 16) : PySem.Builtin.bitXor (a : Int) (b : Int) = ((a ^^^ b : Nat) : Int) := (xor_all ⟨a, ha⟩ ⟨b, hb⟩).1
def dat (n : Nat) (m : Nat → Nat) : List D := (List.range n).map fun i => .int (m i : Int)
theorem dat_len {n : Nat} {m : Nat → Nat} : (dat n m).length = n := by unfold dat; simp
theorem zip_dat {n : Nat} {m : Nat → Nat} : zipD (idxD n) (dat n m) = (List.range n).map fun k => .tup [.int (k : Int), .int (m k : Int)] := by
  unfold zipD idxD dat
  rw [List.zip_map', List.map_map]
  rfl
/-- numerator and denominator -/
def nds (x k : Nat) (p : Nat × Nat) (j : Nat) : Nat × Nat := if j = k then p else (gm p.1 (x ^^^ j), gm p.2 (k ^^^ j))
def nd (x k v n : Nat) : Nat × Nat := (List.range n).foldl (nds x k) (v, 1)
def itp (x n : Nat) (m : Nat → Nat) : Nat := (List.range n).foldl (fun r k => r ^^^ gm (nd x k (m k) n).1 (gi (nd x k (m k) n).2)) 0
theorem xor_nz {a b : Nat} (ha : a < 16) (hb : b < 16) (h : a ≠ b) : a ^^^ b ≠ 0 := (xor_all ⟨a, ha⟩ ⟨b, hb⟩).2 h
theorem nds_ok {x k : Nat} {p : Nat × Nat} {j : Nat} (hx : x < 16) (hk : k < 16) (hj : j < 16) (h : p.1 < 16 ∧ p.2 < 16 ∧ p.2 ≠ 0) : (nds x k p j).1 < 16 ∧ (nds x k p j).2 < 16 ∧ (nds x k p j).2 ≠ 0 := by
  unfold nds
  split
  · exact h
  · rename_i n
    exact ⟨gm_lt h.1 (xor_lt hx hj), gm_lt h.2.1 (xor_lt hk hj), gm_nz h.2.1 (xor_lt hk hj) h.2.2 (xor_nz hk hj fun z => n z.symm)⟩
theorem nd_ok {x k v n : Nat} (hx : x < 16) (hk : k < 16) (hv : v < 16) (hn : n ≤ 16) : (nd x k v n).1 < 16 ∧ (nd x k v n).2 < 16 ∧ (nd x k v n).2 ≠ 0 := by
  have : ∀ (L : List Nat) (p : Nat × Nat), (∀ j ∈ L, j < 16) → p.1 < 16 ∧ p.2 < 16 ∧ p.2 ≠ 0 → (L.foldl (nds x k) p).1 < 16 ∧ (L.foldl (nds x k) p).2 < 16 ∧ (L.foldl (nds x k) p).2 ≠ 0 := fun L => by
    induction L with
    | nil => exact fun p _ h => h
    | cons j L ih => exact fun p hL h => ih _ (fun i hi => hL i (List.mem_cons_of_mem _ hi)) (nds_ok hx hk (hL j List.mem_cons_self) h)
  exact this _ _ (fun j hj => by have := List.mem_range.mp hj; omega) ⟨hv, Nat.lt_of_lt_of_le Nat.one_lt_two (by decide), Nat.one_ne_zero⟩
theorem itp_lt {x n : Nat} {m : Nat → Nat} (hx : x < 16) (hn : n ≤ 16) (hm : ∀ i, i < n → m i < 16) : itp x n m < 16 := by
  have : ∀ (L : List Nat) (r : Nat), (∀ j ∈ L, j < n) → r < 16 → L.foldl (fun r k => r ^^^ gm (nd x k (m k) n).1 (gi (nd x k (m k) n).2)) r < 16 := fun L => by
    induction L with
    | nil => exact fun r _ h => h
    | cons j L ih => exact fun r hL h => ih _ (fun i hi => hL i (List.mem_cons_of_mem _ hi)) (by
        have hj := hL j List.mem_cons_self
        have q := nd_ok (x := x) (k := j) (v := m j) (n := n) hx (by omega) (hm j hj) hn
        exact xor_lt h (gm_lt q.1 (gi_lt q.2.1)))
  exact this _ _ (fun j hj => List.mem_range.mp hj) (by decide)
section
variable {x n : Nat} {m : Nat → Nat} (hx : x < 16) (hn : n ≤ 16) (hm : ∀ i, i < n → m i < 16)
include hx
theorem it0 {k j a b : Nat} (hk : k < 16) (hj : j < 16) (ha : a < 16) (hb : b < 16) {P : Option (D × Kd)} {r : Int} {v : Int} :
    l_interpolate_0 [P, some (.int (x : Int), .z), some (.int r, .z), some (.int (k : Int), .z), some (.int v, .z), some (.int (j : Int), .z), some (.int (a : Int), .z), some (.int (b : Int), .z)]
      = some (.ok .nx, [P, some (.int (x : Int), .z), some (.int r, .z), some (.int (k : Int), .z), some (.int v, .z), some (.int (j : Int), .z), some (.int ((nds x k (a, b) j).1 : Int), .z), some (.int ((nds x k (a, b) j).2 : Int), .z)]) := by
  have e1 := prod_eq ha (xor_lt hx hj)
  have e2 := prod_eq hb (xor_lt hk hj)
  by_cases h : j = k
  · subst h
    simp only [l_interpolate_0, ↓bnd_def, ↓giv_a, ↓opt_a, ↓mSeq_a, ↓mIf_a, ↓mB_a, ↓mT_a, ↓m1_a, ↓mN_a, ↓m2_a, ↓mCh_a, ↓mAnd_a, ↓mOr_a, ↓vAnd_a, ↓vOr_a, ↓vNot_a, ↓vB_t, ↓vB_f, ↓vB0_t, ↓vB0_f, ↓cond_t, ↓cond_f, ↓unO_a, ↓toO_a, ↓mCall_a, ↓has_a, ↓mCallIO_a, ↓aNil_a, ↓aCons_a, ↓rdv_a, ↓mIxB_a, ↓mLenB_a, ↓mStIx_a, ↓put_a, ↓mSet_a, ↓mSetO_a, ↓mAug_a, ↓mRet_a, ↓mRetO_a, ↓mDrop_a, ↓mRaise_a, ↓mLstO_a, ↓mPar_a, ↓mFor_a, ↓mRg_a, ↓mIt_a, ↓mAsg_a, ↓mLc_a, ↓mItA_a, ↓hasL_a, ↓mUp1_a, ↓mSl_a, ↓mPart_a, ↓mJoin_a, ↓mDispO_a, ↓mPairs_n, ↓mPairs_c, ↓mListO_a, ↓mRepL_a, wp_nil, wp_cons, lg_s, RsQ_ok, sole_a, enumF_a, itemsD_l, itemsD_t, itemsD_s, zipF_l, zipF_t, upL_a, fApp_a, asI2_i, gSl_l, gSl_t, gSl_s, gAddX_i, gAddX_s, gAddX_t, gAddX_l, gMulX_i, gMulX_s, gMulX_t, gRepL_a, ixX_l, ixX_t, ixX_s, ixD_s, gEqX_a, gNeX_a, eqX_i, eqX_b, eqX_s, eqX_n, eqX_ni, eqX_in, eqX_t, eqX_l, gIn_a, gNotIn_a, gInX_s, sgnIn_a, gInX_t, gInX_l, gIsN_a, gNotN_a, isNon_n, isNon_i, isNon_t, isNon_l, isNon_s, asStr_a, gJoin_l, gJoin_t, gSum_a, gAll_a, gMax2_a, gMin2_a, gAbs_a, gTup_l, gTup_t, gLst_l, gLst_t, gRev_t, gRev_l, gRev_s, lcW_a, isTy_ds, ↓mForD_a, ↓mDictEnum_a, ↓mListRng_a, dw_a, dwv_d, qtS_a, dictEnum_l, dictEnum_t, lsRng_a, gShr_a, gShl_a, Rs_ok, Rs_exn, atI_0, ixN_0, atI_1, ixN_1, atI_2, ixN_2, atI_3, ixN_3, atI_4, ixN_4, atI_5, ixN_5, atI_6, ixN_6, atI_7, ixN_7, atI_8, ixN_8, atI_9, ixN_9, atI_10, ixN_10, atI_11, ixN_11, atI_12, ixN_12, atI_13, ixN_13, atI_14, ixN_14, atI_15, ixN_15, atI_16, ixN_16, sq_nx, sq_ct, sq_bk, sq_rt, sq_ex, lp_nx, lp_ct, lp_bk, lp_rt, lp_ex, tn_s, rd_z, rd_s, hs_s, cl_s, ci_s, cj_s, bw_s, brw_a, br_z, br_l, ownL_a, ow_l, ag_s, op_s, asB_b, asI_i, stL_a, gN_a, gAdd_a, gSub_a, gXor_a, gAnd_a, gLt_a, gLe_a, gGt_a, gGe_a, gMul_a, gDiv_a, gMod_a, gPow_a, gNeg_a, gNot_a, gEq_a, gNe_a, eqS_i, eqS_b, eqS_s, eqS_n, eqS_ni, eqS_in, lenD_l, lenD_t, lenD_s, intD_i, intD_b, n1_a, lim_a, ixD_l, ixD_t, truth_n, truth_b, truth_i, truth_t, truth_l, isTy_ii, isTy_ib, isTy_in, isTy_is, isTy_it, isTy_il, isTy_bi, isTy_bb, isTy_ss, isTy_si, isTy_sb, isTy_sn, isTy_st, isTy_sl, isTy_tt, isTy_ti, isTy_tb, isTy_tn, isTy_ts, isTy_tl, isTy_ll, isTy_li, isTy_lb, isTy_ln, isTy_ls, isTy_lt, endsOf_r, endsOf_n, endsOf_e, endsIO_r, endsIO_n, endsIO_e, rng1_a, rng2_a, cond_true, cond_false, Bool.and_true, Bool.true_and, Bool.and_false, Bool.false_and, Bool.or_true, Bool.true_or, Bool.or_false, Bool.false_or, Bool.not_true, Bool.not_false, decide_true, decide_false, Bool.false_eq_true, Bool.true_eq_false, if_true, if_false, eq_self, List.getElem?_cons_zero, List.getElem?_cons_succ, List.set_cons_zero, List.set_cons_succ, List.length_cons, List.length_nil, List.length_set, List.map_cons, List.map_nil, List.replicate, List.append_nil, List.nil_append, List.cons_append, Option.bind_some, Option.bind_none, Option.map_some, Option.map_none, Nat.reduceAdd, Nat.reduceSub, Nat.reduceLT, Nat.reduceLeDiff, Nat.reduceEqDiff, ↓reduceIte, nds]
  · have h2 : ¬ (j : Int) = (k : Int) := by omega
    simp only [l_interpolate_0, ↓bnd_def, ↓giv_a, ↓opt_a, ↓mSeq_a, ↓mIf_a, ↓mB_a, ↓mT_a, ↓m1_a, ↓mN_a, ↓m2_a, ↓mCh_a, ↓mAnd_a, ↓mOr_a, ↓vAnd_a, ↓vOr_a, ↓vNot_a, ↓vB_t, ↓vB_f, ↓vB0_t, ↓vB0_f, ↓cond_t, ↓cond_f, ↓unO_a, ↓toO_a, ↓mCall_a, ↓has_a, ↓mCallIO_a, ↓aNil_a, ↓aCons_a, ↓rdv_a, ↓mIxB_a, ↓mLenB_a, ↓mStIx_a, ↓put_a, ↓mSet_a, ↓mSetO_a, ↓mAug_a, ↓mRet_a, ↓mRetO_a, ↓mDrop_a, ↓mRaise_a, ↓mLstO_a, ↓mPar_a, ↓mFor_a, ↓mRg_a, ↓mIt_a, ↓mAsg_a, ↓mLc_a, ↓mItA_a, ↓hasL_a, ↓mUp1_a, ↓mSl_a, ↓mPart_a, ↓mJoin_a, ↓mDispO_a, ↓mPairs_n, ↓mPairs_c, ↓mListO_a, ↓mRepL_a, wp_nil, wp_cons, lg_s, RsQ_ok, sole_a, enumF_a, itemsD_l, itemsD_t, itemsD_s, zipF_l, zipF_t, upL_a, fApp_a, asI2_i, gSl_l, gSl_t, gSl_s, gAddX_i, gAddX_s, gAddX_t, gAddX_l, gMulX_i, gMulX_s, gMulX_t, gRepL_a, ixX_l, ixX_t, ixX_s, ixD_s, gEqX_a, gNeX_a, eqX_i, eqX_b, eqX_s, eqX_n, eqX_ni, eqX_in, eqX_t, eqX_l, gIn_a, gNotIn_a, gInX_s, sgnIn_a, gInX_t, gInX_l, gIsN_a, gNotN_a, isNon_n, isNon_i, isNon_t, isNon_l, isNon_s, asStr_a, gJoin_l, gJoin_t, gSum_a, gAll_a, gMax2_a, gMin2_a, gAbs_a, gTup_l, gTup_t, gLst_l, gLst_t, gRev_t, gRev_l, gRev_s, lcW_a, isTy_ds, ↓mForD_a, ↓mDictEnum_a, ↓mListRng_a, dw_a, dwv_d, qtS_a, dictEnum_l, dictEnum_t, lsRng_a, gShr_a, gShl_a, Rs_ok, Rs_exn, atI_0, ixN_0, atI_1, ixN_1, atI_2, ixN_2, atI_3, ixN_3, atI_4, ixN_4, atI_5, ixN_5, atI_6, ixN_6, atI_7, ixN_7, atI_8, ixN_8, atI_9, ixN_9, atI_10, ixN_10, atI_11, ixN_11, atI_12, ixN_12, atI_13, ixN_13, atI_14, ixN_14, atI_15, ixN_15, atI_16, ixN_16, sq_nx, sq_ct, sq_bk, sq_rt, sq_ex, lp_nx, lp_ct, lp_bk, lp_rt, lp_ex, tn_s, rd_z, rd_s, hs_s, cl_s, ci_s, cj_s, bw_s, brw_a, br_z, br_l, ownL_a, ow_l, ag_s, op_s, asB_b, asI_i, stL_a, gN_a, gAdd_a, gSub_a, gXor_a, gAnd_a, gLt_a, gLe_a, gGt_a, gGe_a, gMul_a, gDiv_a, gMod_a, gPow_a, gNeg_a, gNot_a, gEq_a, gNe_a, eqS_i, eqS_b, eqS_s, eqS_n, eqS_ni, eqS_in, lenD_l, lenD_t, lenD_s, intD_i, intD_b, n1_a, lim_a, ixD_l, ixD_t, truth_n, truth_b, truth_i, truth_t, truth_l, isTy_ii, isTy_ib, isTy_in, isTy_is, isTy_it, isTy_il, isTy_bi, isTy_bb, isTy_ss, isTy_si, isTy_sb, isTy_sn, isTy_st, isTy_sl, isTy_tt, isTy_ti, isTy_tb, isTy_tn, isTy_ts, isTy_tl, isTy_ll, isTy_li, isTy_lb, isTy_ln, isTy_ls, isTy_lt, endsOf_r, endsOf_n, endsOf_e, endsIO_r, endsIO_n, endsIO_e, rng1_a, rng2_a, cond_true, cond_false, Bool.and_true, Bool.true_and, Bool.and_false, Bool.false_and, Bool.or_true, Bool.true_or, Bool.or_false, Bool.false_or, Bool.not_true, Bool.not_false, decide_true, decide_false, Bool.false_eq_true, Bool.true_eq_false, if_true, if_false, eq_self, List.getElem?_cons_zero, List.getElem?_cons_succ, List.set_cons_zero, List.set_cons_succ, List.length_cons, List.length_nil, List.length_set, List.map_cons, List.map_nil, List.replicate, List.append_nil, List.nil_append, List.cons_append, Option.bind_some, Option.bind_none, Option.map_some, Option.map_none, Nat.reduceAdd, Nat.reduceSub, Nat.reduceLT, Nat.reduceLeDiff, Nat.reduceEqDiff, ↓reduceIte, nds, h, h2, xor_i hx hj, xor_i hk hj, e1, e2]
include hn hm
theorem it1 {k : Nat} (hk : k < n) {r : Nat} (hr : r < 16) {a5 a6 a7 : Option (D × Kd)} : ∃ b5 b6 b7,
    l_interpolate_1 [some (.dct (idxD n) (dat n m), .z), some (.int (x : Int), .z), some (.int (r : Int), .z), some (.int (k : Int), .z), some (.int (m k : Int), .z), a5, a6, a7]
      = some (.ok .nx, [some (.dct (idxD n) (dat n m), .z), some (.int (x : Int), .z), some (.int ((r ^^^ gm (nd x k (m k) n).1 (gi (nd x k (m k) n).2) : Nat) : Int), .z), some (.int (k : Int), .z), some (.int (m k : Int), .z), b5, b6, b7]) := by
  have q := nd_ok (x := x) (k := k) (v := m k) (n := n) hx (by omega) (hm k hk) hn
  obtain ⟨μ2, e, ⟨b5, rfl⟩, _⟩ := turns_list (g := gN 5) (b := l_interpolate_0) (fun j : Nat => D.int (j : Int)) (fun p μ => (∃ b5, μ = [some (.dct (idxD n) (dat n m), .z), some (.int (x : Int), .z), some (.int (r : Int), .z), some (.int (k : Int), .z), some (.int (m k : Int), .z), b5, some (.int (p.1 : Nat), .z), some (.int (p.2 : Nat), .z)]) ∧ p.1 < 16 ∧ p.2 < 16 ∧ p.2 ≠ 0)
    (nds x k) (List.range n) (m k, 1) [some (.dct (idxD n) (dat n m), .z), some (.int (x : Int), .z), some (.int (r : Int), .z), some (.int (k : Int), .z), some (.int (m k : Int), .z), a5, some (.int (m k : Nat), .z), some (.int (1 : Nat), .z)] ⟨⟨_, rfl⟩, hm k hk, Nat.lt_of_lt_of_le Nat.one_lt_two (by decide), Nat.one_ne_zero⟩ fun p μ j h hj => by
      obtain ⟨⟨b5, rfl⟩, h1, h2, h3⟩ := h
      have hj' : j < 16 := by have := List.mem_range.mp hj; omega
      exact ⟨_, rfl, _, ⟨⟨_, rfl⟩, nds_ok hx (by omega) hj' ⟨h1, h2, h3⟩⟩, .inl (it0 hx (by omega) hj' h1 h2)⟩
  have e' : mTurns (gN 5) l_interpolate_0 (idxD n) [some (.dct (idxD n) (dat n m), .z), some (.int (x : Int), .z), some (.int (r : Int), .z), some (.int (k : Int), .z), some (.int (m k : Int), .z), a5, some (.int (m k : Nat), .z), some (.int 1, .z)] = some (.ok .nx, [some (.dct (idxD n) (dat n m), .z), some (.int (x : Int), .z), some (.int (r : Int), .z), some (.int (k : Int), .z), some (.int (m k : Int), .z), b5, some (.int ((nd x k (m k) n).1 : Nat), .z), some (.int ((nd x k (m k) n).2 : Nat), .z)]) := e
  have e1 := inv_eq q.2.1 q.2.2
  have e2 := prod_eq q.1 (gi_lt q.2.1)
  refine ⟨b5, some (.int ((nd x k (m k) n).1 : Nat), .z), some (.int ((nd x k (m k) n).2 : Nat), .z), ?_⟩
  simp only [l_interpolate_1, ↓bnd_def, ↓giv_a, ↓opt_a, ↓mSeq_a, ↓mIf_a, ↓mB_a, ↓mT_a, ↓m1_a, ↓mN_a, ↓m2_a, ↓mCh_a, ↓mAnd_a, ↓mOr_a, ↓vAnd_a, ↓vOr_a, ↓vNot_a, ↓vB_t, ↓vB_f, ↓vB0_t, ↓vB0_f, ↓cond_t, ↓cond_f, ↓unO_a, ↓toO_a, ↓mCall_a, ↓has_a, ↓mCallIO_a, ↓aNil_a, ↓aCons_a, ↓rdv_a, ↓mIxB_a, ↓mLenB_a, ↓mStIx_a, ↓put_a, ↓mSet_a, ↓mSetO_a, ↓mAug_a, ↓mRet_a, ↓mRetO_a, ↓mDrop_a, ↓mRaise_a, ↓mLstO_a, ↓mPar_a, ↓mFor_a, ↓mRg_a, ↓mIt_a, ↓mAsg_a, ↓mLc_a, ↓mItA_a, ↓hasL_a, ↓mUp1_a, ↓mSl_a, ↓mPart_a, ↓mJoin_a, ↓mDispO_a, ↓mPairs_n, ↓mPairs_c, ↓mListO_a, ↓mRepL_a, wp_nil, wp_cons, lg_s, RsQ_ok, sole_a, enumF_a, itemsD_l, itemsD_t, itemsD_s, zipF_l, zipF_t, upL_a, fApp_a, asI2_i, gSl_l, gSl_t, gSl_s, gAddX_i, gAddX_s, gAddX_t, gAddX_l, gMulX_i, gMulX_s, gMulX_t, gRepL_a, ixX_l, ixX_t, ixX_s, ixD_s, gEqX_a, gNeX_a, eqX_i, eqX_b, eqX_s, eqX_n, eqX_ni, eqX_in, eqX_t, eqX_l, gIn_a, gNotIn_a, gInX_s, sgnIn_a, gInX_t, gInX_l, gIsN_a, gNotN_a, isNon_n, isNon_i, isNon_t, isNon_l, isNon_s, asStr_a, gJoin_l, gJoin_t, gSum_a, gAll_a, gMax2_a, gMin2_a, gAbs_a, gTup_l, gTup_t, gLst_l, gLst_t, gRev_t, gRev_l, gRev_s, lcW_a, isTy_ds, ↓mForD_a, ↓mDictEnum_a, ↓mListRng_a, dw_a, dwv_d, qtS_a, dictEnum_l, dictEnum_t, lsRng_a, gShr_a, gShl_a, Rs_ok, Rs_exn, atI_0, ixN_0, atI_1, ixN_1, atI_2, ixN_2, atI_3, ixN_3, atI_4, ixN_4, atI_5, ixN_5, atI_6, ixN_6, atI_7, ixN_7, atI_8, ixN_8, atI_9, ixN_9, atI_10, ixN_10, atI_11, ixN_11, atI_12, ixN_12, atI_13, ixN_13, atI_14, ixN_14, atI_15, ixN_15, atI_16, ixN_16, sq_nx, sq_ct, sq_bk, sq_rt, sq_ex, lp_nx, lp_ct, lp_bk, lp_rt, lp_ex, tn_s, rd_z, rd_s, hs_s, cl_s, ci_s, cj_s, bw_s, brw_a, br_z, br_l, ownL_a, ow_l, ag_s, op_s, asB_b, asI_i, stL_a, gN_a, gAdd_a, gSub_a, gXor_a, gAnd_a, gLt_a, gLe_a, gGt_a, gGe_a, gMul_a, gDiv_a, gMod_a, gPow_a, gNeg_a, gNot_a, gEq_a, gNe_a, eqS_i, eqS_b, eqS_s, eqS_n, eqS_ni, eqS_in, lenD_l, lenD_t, lenD_s, intD_i, intD_b, n1_a, lim_a, ixD_l, ixD_t, truth_n, truth_b, truth_i, truth_t, truth_l, isTy_ii, isTy_ib, isTy_in, isTy_is, isTy_it, isTy_il, isTy_bi, isTy_bb, isTy_ss, isTy_si, isTy_sb, isTy_sn, isTy_st, isTy_sl, isTy_tt, isTy_ti, isTy_tb, isTy_tn, isTy_ts, isTy_tl, isTy_ll, isTy_li, isTy_lb, isTy_ln, isTy_ls, isTy_lt, endsOf_r, endsOf_n, endsOf_e, endsIO_r, endsIO_n, endsIO_e, rng1_a, rng2_a, cond_true, cond_false, Bool.and_true, Bool.true_and, Bool.and_false, Bool.false_and, Bool.or_true, Bool.true_or, Bool.or_false, Bool.false_or, Bool.not_true, Bool.not_false, decide_true, decide_false, Bool.false_eq_true, Bool.true_eq_false, if_true, if_false, eq_self, List.getElem?_cons_zero, List.getElem?_cons_succ, List.set_cons_zero, List.set_cons_succ, List.length_cons, List.length_nil, List.length_set, List.map_cons, List.map_nil, List.replicate, List.append_nil, List.nil_append, List.cons_append, Option.bind_some, Option.bind_none, Option.map_some, Option.map_none, Nat.reduceAdd, Nat.reduceSub, Nat.reduceLT, Nat.reduceLeDiff, Nat.reduceEqDiff, ↓reduceIte, List.all_cons, List.all_nil, List.zip_cons_cons, List.zip_nil_left, List.foldl_cons, List.foldl_nil, and_self, e', e1, e2, xor_i hr (gm_lt q.1 (gi_lt q.2.1))]
end
end G
end
section
namespace G
open Mn
theorem dget_no : ∀ (ks : List Nat) (vs : List D) (x : Nat), x ∉ ks → dget (ks.map fun (i : Nat) => D.int (i : Int)) vs (.int (x : Int)) = none
  | [], [], _, _ => rfl
  | [], _ :: _, _, _ => rfl
  | _ :: _, [], _, _ => rfl
  | k :: ks, v :: vs, x, h => by
    have h1 : ¬ D.int (k : Int) = D.int (x : Int) := fun z => h (by rw [show k = x by injection z with z; omega]; exact List.mem_cons_self)
    show (if D.int (k : Int) = D.int (x : Int) then some v else dget _ vs _) = none
    rw [if_neg h1]
    exact dget_no ks vs x fun z => h (List.mem_cons_of_mem _ z)
theorem in_no {x n : Nat} {m : Nat → Nat} (h : n ≤ x) : gInX (.int (x : Int)) (.dct (idxD n) (dat n m)) = some false := by
  have e := dget_no (List.range n) (dat n m) x (by rw [List.mem_range]; omega)
  show (match keyD (.int (x : Int)) with | some _ => some (dget (idxD n) (dat n m) (.int (x : Int))).isSome | none => none) = _
  unfold idxD
  rw [e]
  rfl
theorem range0 {c : Nat} : rangeD 0 (c : Int) = (List.range c).map fun (k : Nat) => D.int (k : Int) := by
  unfold rangeD
  rw [show ((c : Int) - 0).toNat = c by omega]
  refine List.map_congr_left fun k _ => ?_
  rw [show (0 : Int) + k = k by omega]
theorem interp {x n : Nat} {m : Nat → Nat} (hx : x < 16) (hn : n ≤ x) (hm : ∀ i, i < n → m i < 16) : f_interpolate [.dct (idxD n) (dat n m), .int (x : Int)] = some (.ok (.int ((itp x n m : Nat) : Int), .z)) := by
  obtain ⟨μ2, e, _, b3, b4, b5, b6, b7, rfl⟩ := turns_list (g := gTp 2 (gsC (gN 3) (gsC (gN 4) gsN))) (b := l_interpolate_1) (fun k : Nat => D.tup [.int (k : Int), .int (m k : Int)])
    (fun (r : Nat) μ => r < 16 ∧ ∃ b3 b4 b5 b6 b7, μ = [some (.dct (idxD n) (dat n m), .z), some (.int (x : Int), .z), some (.int (r : Int), .z), b3, b4, b5, b6, b7])
    (fun r k => r ^^^ gm (nd x k (m k) n).1 (gi (nd x k (m k) n).2)) (List.range n) 0 [some (.dct (idxD n) (dat n m), .z), some (.int (x : Int), .z), some (.int ((0 : Nat) : Int), .z), none, none, none, none, none] ⟨by decide, _, _, _, _, _, rfl⟩ fun r μ k h hk => by
      obtain ⟨hr, b3, b4, b5, b6, b7, rfl⟩ := h
      have hk' := List.mem_range.mp hk
      have q := nd_ok (x := x) (k := k) (v := m k) (n := n) hx (by omega) (hm k hk') (by omega)
      obtain ⟨c5, c6, c7, e⟩ := it1 hx (n := n) (m := m) (by omega) hm hk' hr (a5 := b5) (a6 := b6) (a7 := b7)
      exact ⟨_, rfl, _, ⟨xor_lt hr (gm_lt q.1 (gi_lt q.2.1)), _, _, _, _, _, rfl⟩, .inl e⟩
  rw [← zip_dat] at e
  have e' : mTurns (gTp 2 (gsC (gN 3) (gsC (gN 4) gsN))) l_interpolate_1 (zipD (idxD n) (dat n m)) [some (.dct (idxD n) (dat n m), .z), some (.int (x : Int), .z), some (.int 0, .z), none, none, none, none, none] = some (.ok .nx, [some (.dct (idxD n) (dat n m), .z), some (.int (x : Int), .z), some (.int ((itp x n m : Nat) : Int), .z), b3, b4, b5, b6, b7]) := e
  simp only [f_interpolate, semF, b_interpolate, mu0, ↓bnd_def, ↓giv_a, ↓opt_a, ↓mSeq_a, ↓mIf_a, ↓mB_a, ↓mT_a, ↓m1_a, ↓mN_a, ↓m2_a, ↓mCh_a, ↓mAnd_a, ↓mOr_a, ↓vAnd_a, ↓vOr_a, ↓vNot_a, ↓vB_t, ↓vB_f, ↓vB0_t, ↓vB0_f, ↓cond_t, ↓cond_f, ↓unO_a, ↓toO_a, ↓mCall_a, ↓has_a, ↓mCallIO_a, ↓aNil_a, ↓aCons_a, ↓rdv_a, ↓mIxB_a, ↓mLenB_a, ↓mStIx_a, ↓put_a, ↓mSet_a, ↓mSetO_a, ↓mAug_a, ↓mRet_a, ↓mRetO_a, ↓mDrop_a, ↓mRaise_a, ↓mLstO_a, ↓mPar_a, ↓mFor_a, ↓mRg_a, ↓mIt_a, ↓mAsg_a, ↓mLc_a, ↓mItA_a, ↓hasL_a, ↓mUp1_a, ↓mSl_a, ↓mPart_a, ↓mJoin_a, ↓mDispO_a, ↓mPairs_n, ↓mPairs_c, ↓mListO_a, ↓mRepL_a, wp_nil, wp_cons, lg_s, RsQ_ok, sole_a, enumF_a, itemsD_l, itemsD_t, itemsD_s, zipF_l, zipF_t, upL_a, fApp_a, asI2_i, gSl_l, gSl_t, gSl_s, gAddX_i, gAddX_s, gAddX_t, gAddX_l, gMulX_i, gMulX_s, gMulX_t, gRepL_a, ixX_l, ixX_t, ixX_s, ixD_s, gEqX_a, gNeX_a, eqX_i, eqX_b, eqX_s, eqX_n, eqX_ni, eqX_in, eqX_t, eqX_l, gIn_a, gNotIn_a, gInX_s, sgnIn_a, gInX_t, gInX_l, gIsN_a, gNotN_a, isNon_n, isNon_i, isNon_t, isNon_l, isNon_s, asStr_a, gJoin_l, gJoin_t, gSum_a, gAll_a, gMax2_a, gMin2_a, gAbs_a, gTup_l, gTup_t, gLst_l, gLst_t, gRev_t, gRev_l, gRev_s, lcW_a, isTy_ds, ↓mForD_a, ↓mDictEnum_a, ↓mListRng_a, dw_a, dwv_d, qtS_a, dictEnum_l, dictEnum_t, lsRng_a, gShr_a, gShl_a, Rs_ok, Rs_exn, atI_0, ixN_0, atI_1, ixN_1, atI_2, ixN_2, atI_3, ixN_3, atI_4, ixN_4, atI_5, ixN_5, atI_6, ixN_6, atI_7, ixN_7, atI_8, ixN_8, atI_9, ixN_9, atI_10, ixN_10, atI_11, ixN_11, atI_12, ixN_12, atI_13, ixN_13, atI_14, ixN_14, atI_15, ixN_15, atI_16, ixN_16, sq_nx, sq_ct, sq_bk, sq_rt, sq_ex, lp_nx, lp_ct, lp_bk, lp_rt, lp_ex, tn_s, rd_z, rd_s, hs_s, cl_s, ci_s, cj_s, bw_s, brw_a, br_z, br_l, ownL_a, ow_l, ag_s, op_s, asB_b, asI_i, stL_a, gN_a, gAdd_a, gSub_a, gXor_a, gAnd_a, gLt_a, gLe_a, gGt_a, gGe_a, gMul_a, gDiv_a, gMod_a, gPow_a, gNeg_a, gNot_a, gEq_a, gNe_a, eqS_i, eqS_b, eqS_s, eqS_n, eqS_ni, eqS_in, lenD_l, lenD_t, lenD_s, intD_i, intD_b, n1_a, lim_a, ixD_l, ixD_t, truth_n, truth_b, truth_i, truth_t, truth_l, isTy_ii, isTy_ib, isTy_in, isTy_is, isTy_it, isTy_il, isTy_bi, isTy_bb, isTy_ss, isTy_si, isTy_sb, isTy_sn, isTy_st, isTy_sl, isTy_tt, isTy_ti, isTy_tb, isTy_tn, isTy_ts, isTy_tl, isTy_ll, isTy_li, isTy_lb, isTy_ln, isTy_ls, isTy_lt, endsOf_r, endsOf_n, endsOf_e, endsIO_r, endsIO_n, endsIO_e, rng1_a, rng2_a, cond_true, cond_false, Bool.and_true, Bool.true_and, Bool.and_false, Bool.false_and, Bool.or_true, Bool.true_or, Bool.or_false, Bool.false_or, Bool.not_true, Bool.not_false, decide_true, decide_false, Bool.false_eq_true, Bool.true_eq_false, if_true, if_false, eq_self, List.getElem?_cons_zero, List.getElem?_cons_succ, List.set_cons_zero, List.set_cons_succ, List.length_cons, List.length_nil, List.length_set, List.map_cons, List.map_nil, List.replicate, List.append_nil, List.nil_append, List.cons_append, Option.bind_some, Option.bind_none, Option.map_some, Option.map_none, Nat.reduceAdd, Nat.reduceSub, Nat.reduceLT, Nat.reduceLeDiff, Nat.reduceEqDiff, ↓reduceIte, in_no hn, e']
def blk (n : Nat) (m : Nat → Nat) (c : Nat) : List D := dat n m ++ (List.range c).map fun t => D.int ((itp (n + t) n m : Nat) : Int)
theorem lc_list {ι : Type} {vs : List Nat} {g : TgE} {e : EV D} {μ0 : M} (G F : ι → D) : ∀ L : List ι, (∀ i ∈ L, ∃ μ1, g (G i, .z) μ0 = some μ1 ∧ ∃ μ3, e μ1 = some (.ok (F i), μ3) ∧ wp vs μ3 = μ0) → lcT vs g (giv true) e (L.map G) μ0 = some (.ok (L.map F), μ0)
  | [], _ => rfl
  | i :: L, h => by
    obtain ⟨μ1, e1, μ3, e3, e4⟩ := h i List.mem_cons_self
    have ih := lc_list (vs := vs) (g := g) (e := e) (μ0 := μ0) G F L fun j m => h j (List.mem_cons_of_mem _ m)
    rw [List.map_cons, lcT_cons, e1, lg_s]
    show RsQ (e μ1) _ = _
    rw [e3, RsQ_ok, e4, ih, RsQ_ok]
    rfl
section
variable {n c : Nat} {m : Nat → Nat} (hm : ∀ i, i < n → m i < 16) (hc : n + c ≤ 16)
include hm hc
theorem appended : f_append_checks [.tup (dat n m), .int (c : Int)] = some (.ok (.tup (blk n m c), .z)) := by
  have e := lc_list (vs := [3]) (g := gN 3) (e := l_append_checks_0) (μ0 := [some (.tup (dat n m), .z), some (.int (c : Int), .z), some (.dct (idxD n) (dat n m), .z), none]) (fun k : Nat => D.int (k : Int)) (fun t => D.int ((itp (n + t) n m : Nat) : Int)) (List.range c) fun t ht => by
    have ht' := List.mem_range.mp ht
    have e1 := interp (x := n + t) (n := n) (m := m) (by omega) (by omega) hm
    have e2 : ((n + t : Nat) : Int) = (n : Int) + (t : Int) := by omega
    rw [e2] at e1
    refine ⟨_, rfl, [some (.tup (dat n m), .z), some (.int (c : Int), .z), some (.dct (idxD n) (dat n m), .z), some (.int (t : Int), .z)], ?_, rfl⟩
    simp only [l_append_checks_0, ↓bnd_def, ↓giv_a, ↓opt_a, ↓mSeq_a, ↓mIf_a, ↓mB_a, ↓mT_a, ↓m1_a, ↓mN_a, ↓m2_a, ↓mCh_a, ↓mAnd_a, ↓mOr_a, ↓vAnd_a, ↓vOr_a, ↓vNot_a, ↓vB_t, ↓vB_f, ↓vB0_t, ↓vB0_f, ↓cond_t, ↓cond_f, ↓unO_a, ↓toO_a, ↓mCall_a, ↓has_a, ↓mCallIO_a, ↓aNil_a, ↓aCons_a, ↓rdv_a, ↓mIxB_a, ↓mLenB_a, ↓mStIx_a, ↓put_a, ↓mSet_a, ↓mSetO_a, ↓mAug_a, ↓mRet_a, ↓mRetO_a, ↓mDrop_a, ↓mRaise_a, ↓mLstO_a, ↓mPar_a, ↓mFor_a, ↓mRg_a, ↓mIt_a, ↓mAsg_a, ↓mLc_a, ↓mItA_a, ↓hasL_a, ↓mUp1_a, ↓mSl_a, ↓mPart_a, ↓mJoin_a, ↓mDispO_a, ↓mPairs_n, ↓mPairs_c, ↓mListO_a, ↓mRepL_a, wp_nil, wp_cons, lg_s, RsQ_ok, sole_a, enumF_a, itemsD_l, itemsD_t, itemsD_s, zipF_l, zipF_t, upL_a, fApp_a, asI2_i, gSl_l, gSl_t, gSl_s, gAddX_i, gAddX_s, gAddX_t, gAddX_l, gMulX_i, gMulX_s, gMulX_t, gRepL_a, ixX_l, ixX_t, ixX_s, ixD_s, gEqX_a, gNeX_a, eqX_i, eqX_b, eqX_s, eqX_n, eqX_ni, eqX_in, eqX_t, eqX_l, gIn_a, gNotIn_a, gInX_s, sgnIn_a, gInX_t, gInX_l, gIsN_a, gNotN_a, isNon_n, isNon_i, isNon_t, isNon_l, isNon_s, asStr_a, gJoin_l, gJoin_t, gSum_a, gAll_a, gMax2_a, gMin2_a, gAbs_a, gTup_l, gTup_t, gLst_l, gLst_t, gRev_t, gRev_l, gRev_s, lcW_a, isTy_ds, ↓mForD_a, ↓mDictEnum_a, ↓mListRng_a, dw_a, dwv_d, qtS_a, dictEnum_l, dictEnum_t, lsRng_a, gShr_a, gShl_a, Rs_ok, Rs_exn, atI_0, ixN_0, atI_1, ixN_1, atI_2, ixN_2, atI_3, ixN_3, atI_4, ixN_4, atI_5, ixN_5, atI_6, ixN_6, atI_7, ixN_7, atI_8, ixN_8, atI_9, ixN_9, atI_10, ixN_10, atI_11, ixN_11, atI_12, ixN_12, atI_13, ixN_13, atI_14, ixN_14, atI_15, ixN_15, atI_16, ixN_16, sq_nx, sq_ct, sq_bk, sq_rt, sq_ex, lp_nx, lp_ct, lp_bk, lp_rt, lp_ex, tn_s, rd_z, rd_s, hs_s, cl_s, ci_s, cj_s, bw_s, brw_a, br_z, br_l, ownL_a, ow_l, ag_s, op_s, asB_b, asI_i, stL_a, gN_a, gAdd_a, gSub_a, gXor_a, gAnd_a, gLt_a, gLe_a, gGt_a, gGe_a, gMul_a, gDiv_a, gMod_a, gPow_a, gNeg_a, gNot_a, gEq_a, gNe_a, eqS_i, eqS_b, eqS_s, eqS_n, eqS_ni, eqS_in, lenD_l, lenD_t, lenD_s, intD_i, intD_b, n1_a, lim_a, ixD_l, ixD_t, truth_n, truth_b, truth_i, truth_t, truth_l, isTy_ii, isTy_ib, isTy_in, isTy_is, isTy_it, isTy_il, isTy_bi, isTy_bb, isTy_ss, isTy_si, isTy_sb, isTy_sn, isTy_st, isTy_sl, isTy_tt, isTy_ti, isTy_tb, isTy_tn, isTy_ts, isTy_tl, isTy_ll, isTy_li, isTy_lb, isTy_ln, isTy_ls, isTy_lt, endsOf_r, endsOf_n, endsOf_e, endsIO_r, endsIO_n, endsIO_e, rng1_a, rng2_a, cond_true, cond_false, Bool.and_true, Bool.true_and, Bool.and_false, Bool.false_and, Bool.or_true, Bool.true_or, Bool.or_false, Bool.false_or, Bool.not_true, Bool.not_false, decide_true, decide_false, Bool.false_eq_true, Bool.true_eq_false, if_true, if_false, eq_self, List.getElem?_cons_zero, List.getElem?_cons_succ, List.set_cons_zero, List.set_cons_succ, List.length_cons, List.length_nil, List.length_set, List.map_cons, List.map_nil, List.replicate, List.append_nil, List.nil_append, List.cons_append, Option.bind_some, Option.bind_none, Option.map_some, Option.map_none, Nat.reduceAdd, Nat.reduceSub, Nat.reduceLT, Nat.reduceLeDiff, Nat.reduceEqDiff, ↓reduceIte, dat_len, e1]
  rw [← range0] at e
  have r1 : inR (c : Int) = true := inR_of (by omega) (by omega)
  have d1 : decide (((rangeD 0 (c : Int))).length ≤ 16777216) = true := decide_eq_true (by rw [range0]; simp; omega)
  have d2 : decide (n + c ≤ 16777216) = true := decide_eq_true (by omega)
  have w : wp [3] [some (D.tup (dat n m), Kd.z), some (.int (c : Int), .z), some (.dct (idxD n) (dat n m), .z), none] = [some (D.tup (dat n m), Kd.z), some (.int (c : Int), .z), some (.dct (idxD n) (dat n m), .z), none] := rfl
  simp only [f_append_checks, semF, b_append_checks, mu0, ↓bnd_def, ↓giv_a, ↓opt_a, ↓mSeq_a, ↓mIf_a, ↓mB_a, ↓mT_a, ↓m1_a, ↓mN_a, ↓m2_a, ↓mCh_a, ↓mAnd_a, ↓mOr_a, ↓vAnd_a, ↓vOr_a, ↓vNot_a, ↓vB_t, ↓vB_f, ↓vB0_t, ↓vB0_f, ↓cond_t, ↓cond_f, ↓unO_a, ↓toO_a, ↓mCall_a, ↓has_a, ↓mCallIO_a, ↓aNil_a, ↓aCons_a, ↓rdv_a, ↓mIxB_a, ↓mLenB_a, ↓mStIx_a, ↓put_a, ↓mSet_a, ↓mSetO_a, ↓mAug_a, ↓mRet_a, ↓mRetO_a, ↓mDrop_a, ↓mRaise_a, ↓mLstO_a, ↓mPar_a, ↓mFor_a, ↓mRg_a, ↓mIt_a, ↓mAsg_a, ↓mLc_a, ↓mItA_a, ↓hasL_a, ↓mUp1_a, ↓mSl_a, ↓mPart_a, ↓mJoin_a, ↓mDispO_a, ↓mPairs_n, ↓mPairs_c, ↓mListO_a, ↓mRepL_a, wp_nil, wp_cons, lg_s, RsQ_ok, sole_a, enumF_a, itemsD_l, itemsD_t, itemsD_s, zipF_l, zipF_t, upL_a, fApp_a, asI2_i, gSl_l, gSl_t, gSl_s, gAddX_i, gAddX_s, gAddX_t, gAddX_l, gMulX_i, gMulX_s, gMulX_t, gRepL_a, ixX_l, ixX_t, ixX_s, ixD_s, gEqX_a, gNeX_a, eqX_i, eqX_b, eqX_s, eqX_n, eqX_ni, eqX_in, eqX_t, eqX_l, gIn_a, gNotIn_a, gInX_s, sgnIn_a, gInX_t, gInX_l, gIsN_a, gNotN_a, isNon_n, isNon_i, isNon_t, isNon_l, isNon_s, asStr_a, gJoin_l, gJoin_t, gSum_a, gAll_a, gMax2_a, gMin2_a, gAbs_a, gTup_l, gTup_t, gLst_l, gLst_t, gRev_t, gRev_l, gRev_s, lcW_a, isTy_ds, ↓mForD_a, ↓mDictEnum_a, ↓mListRng_a, dw_a, dwv_d, qtS_a, dictEnum_l, dictEnum_t, lsRng_a, gShr_a, gShl_a, Rs_ok, Rs_exn, atI_0, ixN_0, atI_1, ixN_1, atI_2, ixN_2, atI_3, ixN_3, atI_4, ixN_4, atI_5, ixN_5, atI_6, ixN_6, atI_7, ixN_7, atI_8, ixN_8, atI_9, ixN_9, atI_10, ixN_10, atI_11, ixN_11, atI_12, ixN_12, atI_13, ixN_13, atI_14, ixN_14, atI_15, ixN_15, atI_16, ixN_16, sq_nx, sq_ct, sq_bk, sq_rt, sq_ex, lp_nx, lp_ct, lp_bk, lp_rt, lp_ex, tn_s, rd_z, rd_s, hs_s, cl_s, ci_s, cj_s, bw_s, brw_a, br_z, br_l, ownL_a, ow_l, ag_s, op_s, asB_b, asI_i, stL_a, gN_a, gAdd_a, gSub_a, gXor_a, gAnd_a, gLt_a, gLe_a, gGt_a, gGe_a, gMul_a, gDiv_a, gMod_a, gPow_a, gNeg_a, gNot_a, gEq_a, gNe_a, eqS_i, eqS_b, eqS_s, eqS_n, eqS_ni, eqS_in, lenD_l, lenD_t, lenD_s, intD_i, intD_b, n1_a, lim_a, ixD_l, ixD_t, truth_n, truth_b, truth_i, truth_t, truth_l, isTy_ii, isTy_ib, isTy_in, isTy_is, isTy_it, isTy_il, isTy_bi, isTy_bb, isTy_ss, isTy_si, isTy_sb, isTy_sn, isTy_st, isTy_sl, isTy_tt, isTy_ti, isTy_tb, isTy_tn, isTy_ts, isTy_tl, isTy_ll, isTy_li, isTy_lb, isTy_ln, isTy_ls, isTy_lt, endsOf_r, endsOf_n, endsOf_e, endsIO_r, endsIO_n, endsIO_e, rng1_a, rng2_a, cond_true, cond_false, Bool.and_true, Bool.true_and, Bool.and_false, Bool.false_and, Bool.or_true, Bool.true_or, Bool.or_false, Bool.false_or, Bool.not_true, Bool.not_false, decide_true, decide_false, Bool.false_eq_true, Bool.true_eq_false, if_true, if_false, eq_self, List.getElem?_cons_zero, List.getElem?_cons_succ, List.set_cons_zero, List.set_cons_succ, List.length_cons, List.length_nil, List.length_set, List.map_cons, List.map_nil, List.replicate, List.append_nil, List.nil_append, List.cons_append, Option.bind_some, Option.bind_none, Option.map_some, Option.map_none, Nat.reduceAdd, Nat.reduceSub, Nat.reduceLT, Nat.reduceLeDiff, Nat.reduceEqDiff, ↓reduceIte, dat_len, r1, d1, w, e, List.length_map, List.length_range, d2, blk]
end
end G
end
section
namespace G
open Mn
theorem sym_all : ∀ a : _root_.Fin 16, f_is_symbol [.int (a.val : Int)] = some (.ok (.bl true, .z)) := by decide +kernel
theorem sym_eq {a : Nat} (ha : a < 16) : f_is_symbol [.int (a : Int)] = some (.ok (.bl true, .z)) := sym_all ⟨a, ha⟩
theorem all_true (n : Nat) : ((List.range n).map fun _ => true).all id = true := by
  rw [List.all_eq_true]
  intro b hb
  obtain ⟨_, _, rfl⟩ := List.mem_map.mp hb
  rfl
theorem lc_flt {ι : Type} {vs : List Nat} {g : TgE} {t : EV Bool} {e : EV D} {μ0 : M} (G F : ι → D) (p : ι → Bool) : ∀ L : List ι, (∀ i ∈ L, ∃ μ1, g (G i, .z) μ0 = some μ1 ∧ t μ1 = some (.ok (p i), μ1) ∧ e μ1 = some (.ok (F i), μ1) ∧ wp vs μ1 = μ0) → lcT vs g t e (L.map G) μ0 = some (.ok ((L.filter p).map F), μ0)
  | [], _ => rfl
  | i :: L, h => by
    obtain ⟨μ1, e1, e2, e3, e4⟩ := h i List.mem_cons_self
    have ih := lc_flt (vs := vs) (g := g) (t := t) (e := e) (μ0 := μ0) G F p L fun j m => h j (List.mem_cons_of_mem _ m)
    rw [List.map_cons, lcT_cons, e1, lg_s, e2, RsQ_ok]
    cases q : p i with
    | false =>
      rw [List.filter_cons_of_neg (by rw [q]; exact Bool.false_ne_true)]
      show lcT vs g t e (L.map G) (wp vs μ1) = _
      rw [e4]
      exact ih
    | true =>
      rw [List.filter_cons_of_pos q]
      show RsQ (e μ1) _ = _
      rw [e3, RsQ_ok, e4, ih, RsQ_ok]
      rfl
section
variable {n c : Nat} {m : Nat → Nat} (hm : ∀ i, i < n → m i < 16) (hc : n + c ≤ 16) (h1 : 1 ≤ n)
include hm hc h1
theorem checked : f_check_data [.tup (dat n m), .int (c : Int)] = some (.ok (.non, .z)) := by
  have e := lc_list (vs := [2]) (g := gN 2) (e := l_check_data_0) (μ0 := [some (.tup (dat n m), .z), some (.int (c : Int), .z), none]) (fun k : Nat => D.int (m k : Int)) (fun _ => D.bl true) (List.range n) fun t ht => by
    have e1 := sym_eq (hm t (List.mem_range.mp ht))
    refine ⟨_, rfl, [some (.tup (dat n m), .z), some (.int (c : Int), .z), some (.int (m t : Int), .z)], ?_, rfl⟩
    simp only [l_check_data_0, ↓bnd_def, ↓giv_a, ↓opt_a, ↓mSeq_a, ↓mIf_a, ↓mB_a, ↓mT_a, ↓m1_a, ↓mN_a, ↓m2_a, ↓mCh_a, ↓mAnd_a, ↓mOr_a, ↓vAnd_a, ↓vOr_a, ↓vNot_a, ↓vB_t, ↓vB_f, ↓vB0_t, ↓vB0_f, ↓cond_t, ↓cond_f, ↓unO_a, ↓toO_a, ↓mCall_a, ↓has_a, ↓mCallIO_a, ↓aNil_a, ↓aCons_a, ↓rdv_a, ↓mIxB_a, ↓mLenB_a, ↓mStIx_a, ↓put_a, ↓mSet_a, ↓mSetO_a, ↓mAug_a, ↓mRet_a, ↓mRetO_a, ↓mDrop_a, ↓mRaise_a, ↓mLstO_a, ↓mPar_a, ↓mFor_a, ↓mRg_a, ↓mIt_a, ↓mAsg_a, ↓mLc_a, ↓mItA_a, ↓hasL_a, ↓mUp1_a, ↓mSl_a, ↓mPart_a, ↓mJoin_a, ↓mDispO_a, ↓mPairs_n, ↓mPairs_c, ↓mListO_a, ↓mRepL_a, wp_nil, wp_cons, lg_s, RsQ_ok, sole_a, enumF_a, itemsD_l, itemsD_t, itemsD_s, zipF_l, zipF_t, upL_a, fApp_a, asI2_i, gSl_l, gSl_t, gSl_s, gAddX_i, gAddX_s, gAddX_t, gAddX_l, gMulX_i, gMulX_s, gMulX_t, gRepL_a, ixX_l, ixX_t, ixX_s, ixD_s, gEqX_a, gNeX_a, eqX_i, eqX_b, eqX_s, eqX_n, eqX_ni, eqX_in, eqX_t, eqX_l, gIn_a, gNotIn_a, gInX_s, sgnIn_a, gInX_t, gInX_l, gIsN_a, gNotN_a, isNon_n, isNon_i, isNon_t, isNon_l, isNon_s, asStr_a, gJoin_l, gJoin_t, gSum_a, gAll_a, gMax2_a, gMin2_a, gAbs_a, gTup_l, gTup_t, gLst_l, gLst_t, gRev_t, gRev_l, gRev_s, lcW_a, isTy_ds, ↓mForD_a, ↓mDictEnum_a, ↓mListRng_a, dw_a, dwv_d, qtS_a, dictEnum_l, dictEnum_t, lsRng_a, gShr_a, gShl_a, Rs_ok, Rs_exn, atI_0, ixN_0, atI_1, ixN_1, atI_2, ixN_2, atI_3, ixN_3, atI_4, ixN_4, atI_5, ixN_5, atI_6, ixN_6, atI_7, ixN_7, atI_8, ixN_8, atI_9, ixN_9, atI_10, ixN_10, atI_11, ixN_11, atI_12, ixN_12, atI_13, ixN_13, atI_14, ixN_14, atI_15, ixN_15, atI_16, ixN_16, sq_nx, sq_ct, sq_bk, sq_rt, sq_ex, lp_nx, lp_ct, lp_bk, lp_rt, lp_ex, tn_s, rd_z, rd_s, hs_s, cl_s, ci_s, cj_s, bw_s, brw_a, br_z, br_l, ownL_a, ow_l, ag_s, op_s, asB_b, asI_i, stL_a, gN_a, gAdd_a, gSub_a, gXor_a, gAnd_a, gLt_a, gLe_a, gGt_a, gGe_a, gMul_a, gDiv_a, gMod_a, gPow_a, gNeg_a, gNot_a, gEq_a, gNe_a, eqS_i, eqS_b, eqS_s, eqS_n, eqS_ni, eqS_in, lenD_l, lenD_t, lenD_s, intD_i, intD_b, n1_a, lim_a, ixD_l, ixD_t, truth_n, truth_b, truth_i, truth_t, truth_l, isTy_ii, isTy_ib, isTy_in, isTy_is, isTy_it, isTy_il, isTy_bi, isTy_bb, isTy_ss, isTy_si, isTy_sb, isTy_sn, isTy_st, isTy_sl, isTy_tt, isTy_ti, isTy_tb, isTy_tn, isTy_ts, isTy_tl, isTy_ll, isTy_li, isTy_lb, isTy_ln, isTy_ls, isTy_lt, endsOf_r, endsOf_n, endsOf_e, endsIO_r, endsIO_n, endsIO_e, rng1_a, rng2_a, cond_true, cond_false, Bool.and_true, Bool.true_and, Bool.and_false, Bool.false_and, Bool.or_true, Bool.true_or, Bool.or_false, Bool.false_or, Bool.not_true, Bool.not_false, decide_true, decide_false, Bool.false_eq_true, Bool.true_eq_false, if_true, if_false, eq_self, List.getElem?_cons_zero, List.getElem?_cons_succ, List.set_cons_zero, List.set_cons_succ, List.length_cons, List.length_nil, List.length_set, List.map_cons, List.map_nil, List.replicate, List.append_nil, List.nil_append, List.cons_append, Option.bind_some, Option.bind_none, Option.map_some, Option.map_none, Nat.reduceAdd, Nat.reduceSub, Nat.reduceLT, Nat.reduceLeDiff, Nat.reduceEqDiff, ↓reduceIte, e1]
  have e' : lcT [2] (gN 2) (giv true) l_check_data_0 (dat n m) [some (.tup (dat n m), .z), some (.int (c : Int), .z), none] = some (.ok (((List.range n).map fun _ => true).map D.bl), [some (.tup (dat n m), .z), some (.int (c : Int), .z), none]) := by
    rw [List.map_map]
    exact e
  have d1 : decide ((dat n m).length ≤ 16777216) = true := decide_eq_true (by rw [dat_len]; omega)
  have w : wp [2] [some (D.tup (dat n m), Kd.z), some (.int (c : Int), .z), none] = [some (D.tup (dat n m), Kd.z), some (.int (c : Int), .z), none] := rfl
  have d1' : decide (n ≤ 16777216) = true := decide_eq_true (by omega)
  have d2 : decide ((n : Int) = 0) = false := decide_eq_false (by omega)
  have e2 : f_is_integer [.int (c : Int), .int 0, .int (16 - (n : Int))] = some (.ok (.bl true, .z)) := by
    have d3 : decide (0 ≤ (c : Int)) = true := decide_eq_true (by omega)
    have d4 : decide ((c : Int) ≤ 16 - n) = true := decide_eq_true (by omega)
    simp only [f_is_integer, semF, b_is_integer, mu0, ↓bnd_def, ↓giv_a, ↓opt_a, ↓mSeq_a, ↓mIf_a, ↓mB_a, ↓mT_a, ↓m1_a, ↓mN_a, ↓m2_a, ↓mCh_a, ↓mAnd_a, ↓mOr_a, ↓vAnd_a, ↓vOr_a, ↓vNot_a, ↓vB_t, ↓vB_f, ↓vB0_t, ↓vB0_f, ↓cond_t, ↓cond_f, ↓unO_a, ↓toO_a, ↓mCall_a, ↓has_a, ↓mCallIO_a, ↓aNil_a, ↓aCons_a, ↓rdv_a, ↓mIxB_a, ↓mLenB_a, ↓mStIx_a, ↓put_a, ↓mSet_a, ↓mSetO_a, ↓mAug_a, ↓mRet_a, ↓mRetO_a, ↓mDrop_a, ↓mRaise_a, ↓mLstO_a, ↓mPar_a, ↓mFor_a, ↓mRg_a, ↓mIt_a, ↓mAsg_a, ↓mLc_a, ↓mItA_a, ↓hasL_a, ↓mUp1_a, ↓mSl_a, ↓mPart_a, ↓mJoin_a, ↓mDispO_a, ↓mPairs_n, ↓mPairs_c, ↓mListO_a, ↓mRepL_a, wp_nil, wp_cons, lg_s, RsQ_ok, sole_a, enumF_a, itemsD_l, itemsD_t, itemsD_s, zipF_l, zipF_t, upL_a, fApp_a, asI2_i, gSl_l, gSl_t, gSl_s, gAddX_i, gAddX_s, gAddX_t, gAddX_l, gMulX_i, gMulX_s, gMulX_t, gRepL_a, ixX_l, ixX_t, ixX_s, ixD_s, gEqX_a, gNeX_a, eqX_i, eqX_b, eqX_s, eqX_n, eqX_ni, eqX_in, eqX_t, eqX_l, gIn_a, gNotIn_a, gInX_s, sgnIn_a, gInX_t, gInX_l, gIsN_a, gNotN_a, isNon_n, isNon_i, isNon_t, isNon_l, isNon_s, asStr_a, gJoin_l, gJoin_t, gSum_a, gAll_a, gMax2_a, gMin2_a, gAbs_a, gTup_l, gTup_t, gLst_l, gLst_t, gRev_t, gRev_l, gRev_s, lcW_a, isTy_ds, ↓mForD_a, ↓mDictEnum_a, ↓mListRng_a, dw_a, dwv_d, qtS_a, dictEnum_l, dictEnum_t, lsRng_a, gShr_a, gShl_a, Rs_ok, Rs_exn, atI_0, ixN_0, atI_1, ixN_1, atI_2, ixN_2, atI_3, ixN_3, atI_4, ixN_4, atI_5, ixN_5, atI_6, ixN_6, atI_7, ixN_7, atI_8, ixN_8, atI_9, ixN_9, atI_10, ixN_10, atI_11, ixN_11, atI_12, ixN_12, atI_13, ixN_13, atI_14, ixN_14, atI_15, ixN_15, atI_16, ixN_16, sq_nx, sq_ct, sq_bk, sq_rt, sq_ex, lp_nx, lp_ct, lp_bk, lp_rt, lp_ex, tn_s, rd_z, rd_s, hs_s, cl_s, ci_s, cj_s, bw_s, brw_a, br_z, br_l, ownL_a, ow_l, ag_s, op_s, asB_b, asI_i, stL_a, gN_a, gAdd_a, gSub_a, gXor_a, gAnd_a, gLt_a, gLe_a, gGt_a, gGe_a, gMul_a, gDiv_a, gMod_a, gPow_a, gNeg_a, gNot_a, gEq_a, gNe_a, eqS_i, eqS_b, eqS_s, eqS_n, eqS_ni, eqS_in, lenD_l, lenD_t, lenD_s, intD_i, intD_b, n1_a, lim_a, ixD_l, ixD_t, truth_n, truth_b, truth_i, truth_t, truth_l, isTy_ii, isTy_ib, isTy_in, isTy_is, isTy_it, isTy_il, isTy_bi, isTy_bb, isTy_ss, isTy_si, isTy_sb, isTy_sn, isTy_st, isTy_sl, isTy_tt, isTy_ti, isTy_tb, isTy_tn, isTy_ts, isTy_tl, isTy_ll, isTy_li, isTy_lb, isTy_ln, isTy_ls, isTy_lt, endsOf_r, endsOf_n, endsOf_e, endsIO_r, endsIO_n, endsIO_e, rng1_a, rng2_a, cond_true, cond_false, Bool.and_true, Bool.true_and, Bool.and_false, Bool.false_and, Bool.or_true, Bool.true_or, Bool.or_false, Bool.false_or, Bool.not_true, Bool.not_false, decide_true, decide_false, Bool.false_eq_true, Bool.true_eq_false, if_true, if_false, eq_self, List.getElem?_cons_zero, List.getElem?_cons_succ, List.set_cons_zero, List.set_cons_succ, List.length_cons, List.length_nil, List.length_set, List.map_cons, List.map_nil, List.replicate, List.append_nil, List.nil_append, List.cons_append, Option.bind_some, Option.bind_none, Option.map_some, Option.map_none, Nat.reduceAdd, Nat.reduceSub, Nat.reduceLT, Nat.reduceLeDiff, Nat.reduceEqDiff, ↓reduceIte, d3, d4]
  simp only [f_check_data, semF, b_check_data, mu0, ↓bnd_def, ↓giv_a, ↓opt_a, ↓mSeq_a, ↓mIf_a, ↓mB_a, ↓mT_a, ↓m1_a, ↓mN_a, ↓m2_a, ↓mCh_a, ↓mAnd_a, ↓mOr_a, ↓vAnd_a, ↓vOr_a, ↓vNot_a, ↓vB_t, ↓vB_f, ↓vB0_t, ↓vB0_f, ↓cond_t, ↓cond_f, ↓unO_a, ↓toO_a, ↓mCall_a, ↓has_a, ↓mCallIO_a, ↓aNil_a, ↓aCons_a, ↓rdv_a, ↓mIxB_a, ↓mLenB_a, ↓mStIx_a, ↓put_a, ↓mSet_a, ↓mSetO_a, ↓mAug_a, ↓mRet_a, ↓mRetO_a, ↓mDrop_a, ↓mRaise_a, ↓mLstO_a, ↓mPar_a, ↓mFor_a, ↓mRg_a, ↓mIt_a, ↓mAsg_a, ↓mLc_a, ↓mItA_a, ↓hasL_a, ↓mUp1_a, ↓mSl_a, ↓mPart_a, ↓mJoin_a, ↓mDispO_a, ↓mPairs_n, ↓mPairs_c, ↓mListO_a, ↓mRepL_a, wp_nil, wp_cons, lg_s, RsQ_ok, sole_a, enumF_a, itemsD_l, itemsD_t, itemsD_s, zipF_l, zipF_t, upL_a, fApp_a, asI2_i, gSl_l, gSl_t, gSl_s, gAddX_i, gAddX_s, gAddX_t, gAddX_l, gMulX_i, gMulX_s, gMulX_t, gRepL_a, ixX_l, ixX_t, ixX_s, ixD_s, gEqX_a, gNeX_a, eqX_i, eqX_b, eqX_s, eqX_n, eqX_ni, eqX_in, eqX_t, eqX_l, gIn_a, gNotIn_a, gInX_s, sgnIn_a, gInX_t, gInX_l, gIsN_a, gNotN_a, isNon_n, isNon_i, isNon_t, isNon_l, isNon_s, asStr_a, gJoin_l, gJoin_t, gSum_a, gAll_a, gMax2_a, gMin2_a, gAbs_a, gTup_l, gTup_t, gLst_l, gLst_t, gRev_t, gRev_l, gRev_s, lcW_a, isTy_ds, ↓mForD_a, ↓mDictEnum_a, ↓mListRng_a, dw_a, dwv_d, qtS_a, dictEnum_l, dictEnum_t, lsRng_a, gShr_a, gShl_a, Rs_ok, Rs_exn, atI_0, ixN_0, atI_1, ixN_1, atI_2, ixN_2, atI_3, ixN_3, atI_4, ixN_4, atI_5, ixN_5, atI_6, ixN_6, atI_7, ixN_7, atI_8, ixN_8, atI_9, ixN_9, atI_10, ixN_10, atI_11, ixN_11, atI_12, ixN_12, atI_13, ixN_13, atI_14, ixN_14, atI_15, ixN_15, atI_16, ixN_16, sq_nx, sq_ct, sq_bk, sq_rt, sq_ex, lp_nx, lp_ct, lp_bk, lp_rt, lp_ex, tn_s, rd_z, rd_s, hs_s, cl_s, ci_s, cj_s, bw_s, brw_a, br_z, br_l, ownL_a, ow_l, ag_s, op_s, asB_b, asI_i, stL_a, gN_a, gAdd_a, gSub_a, gXor_a, gAnd_a, gLt_a, gLe_a, gGt_a, gGe_a, gMul_a, gDiv_a, gMod_a, gPow_a, gNeg_a, gNot_a, gEq_a, gNe_a, eqS_i, eqS_b, eqS_s, eqS_n, eqS_ni, eqS_in, lenD_l, lenD_t, lenD_s, intD_i, intD_b, n1_a, lim_a, ixD_l, ixD_t, truth_n, truth_b, truth_i, truth_t, truth_l, isTy_ii, isTy_ib, isTy_in, isTy_is, isTy_it, isTy_il, isTy_bi, isTy_bb, isTy_ss, isTy_si, isTy_sb, isTy_sn, isTy_st, isTy_sl, isTy_tt, isTy_ti, isTy_tb, isTy_tn, isTy_ts, isTy_tl, isTy_ll, isTy_li, isTy_lb, isTy_ln, isTy_ls, isTy_lt, endsOf_r, endsOf_n, endsOf_e, endsIO_r, endsIO_n, endsIO_e, rng1_a, rng2_a, cond_true, cond_false, Bool.and_true, Bool.true_and, Bool.and_false, Bool.false_and, Bool.or_true, Bool.true_or, Bool.or_false, Bool.false_or, Bool.not_true, Bool.not_false, decide_true, decide_false, Bool.false_eq_true, Bool.true_eq_false, if_true, if_false, eq_self, List.getElem?_cons_zero, List.getElem?_cons_succ, List.set_cons_zero, List.set_cons_succ, List.length_cons, List.length_nil, List.length_set, List.map_cons, List.map_nil, List.replicate, List.append_nil, List.nil_append, List.cons_append, Option.bind_some, Option.bind_none, Option.map_some, Option.map_none, Nat.reduceAdd, Nat.reduceSub, Nat.reduceLT, Nat.reduceLeDiff, Nat.reduceEqDiff, ↓reduceIte, d1, d1', w, e', asBools_map, all_true, dat_len, d2, e2]
theorem encoded : f_encode_block [.tup (dat n m), .int (c : Int)] = some (.ok (.tup (blk n m c), .z)) := by
  have e1 := checked hm hc h1
  have e2 := appended hm hc
  simp only [f_encode_block, semF, b_encode_block, mu0, ↓bnd_def, ↓giv_a, ↓opt_a, ↓mSeq_a, ↓mIf_a, ↓mB_a, ↓mT_a, ↓m1_a, ↓mN_a, ↓m2_a, ↓mCh_a, ↓mAnd_a, ↓mOr_a, ↓vAnd_a, ↓vOr_a, ↓vNot_a, ↓vB_t, ↓vB_f, ↓vB0_t, ↓vB0_f, ↓cond_t, ↓cond_f, ↓unO_a, ↓toO_a, ↓mCall_a, ↓has_a, ↓mCallIO_a, ↓aNil_a, ↓aCons_a, ↓rdv_a, ↓mIxB_a, ↓mLenB_a, ↓mStIx_a, ↓put_a, ↓mSet_a, ↓mSetO_a, ↓mAug_a, ↓mRet_a, ↓mRetO_a, ↓mDrop_a, ↓mRaise_a, ↓mLstO_a, ↓mPar_a, ↓mFor_a, ↓mRg_a, ↓mIt_a, ↓mAsg_a, ↓mLc_a, ↓mItA_a, ↓hasL_a, ↓mUp1_a, ↓mSl_a, ↓mPart_a, ↓mJoin_a, ↓mDispO_a, ↓mPairs_n, ↓mPairs_c, ↓mListO_a, ↓mRepL_a, wp_nil, wp_cons, lg_s, RsQ_ok, sole_a, enumF_a, itemsD_l, itemsD_t, itemsD_s, zipF_l, zipF_t, upL_a, fApp_a, asI2_i, gSl_l, gSl_t, gSl_s, gAddX_i, gAddX_s, gAddX_t, gAddX_l, gMulX_i, gMulX_s, gMulX_t, gRepL_a, ixX_l, ixX_t, ixX_s, ixD_s, gEqX_a, gNeX_a, eqX_i, eqX_b, eqX_s, eqX_n, eqX_ni, eqX_in, eqX_t, eqX_l, gIn_a, gNotIn_a, gInX_s, sgnIn_a, gInX_t, gInX_l, gIsN_a, gNotN_a, isNon_n, isNon_i, isNon_t, isNon_l, isNon_s, asStr_a, gJoin_l, gJoin_t, gSum_a, gAll_a, gMax2_a, gMin2_a, gAbs_a, gTup_l, gTup_t, gLst_l, gLst_t, gRev_t, gRev_l, gRev_s, lcW_a, isTy_ds, ↓mForD_a, ↓mDictEnum_a, ↓mListRng_a, dw_a, dwv_d, qtS_a, dictEnum_l, dictEnum_t, lsRng_a, gShr_a, gShl_a, Rs_ok, Rs_exn, atI_0, ixN_0, atI_1, ixN_1, atI_2, ixN_2, atI_3, ixN_3, atI_4, ixN_4, atI_5, ixN_5, atI_6, ixN_6, atI_7, ixN_7, atI_8, ixN_8, atI_9, ixN_9, atI_10, ixN_10, atI_11, ixN_11, atI_12, ixN_12, atI_13, ixN_13, atI_14, ixN_14, atI_15, ixN_15, atI_16, ixN_16, sq_nx, sq_ct, sq_bk, sq_rt, sq_ex, lp_nx, lp_ct, lp_bk, lp_rt, lp_ex, tn_s, rd_z, rd_s, hs_s, cl_s, ci_s, cj_s, bw_s, brw_a, br_z, br_l, ownL_a, ow_l, ag_s, op_s, asB_b, asI_i, stL_a, gN_a, gAdd_a, gSub_a, gXor_a, gAnd_a, gLt_a, gLe_a, gGt_a, gGe_a, gMul_a, gDiv_a, gMod_a, gPow_a, gNeg_a, gNot_a, gEq_a, gNe_a, eqS_i, eqS_b, eqS_s, eqS_n, eqS_ni, eqS_in, lenD_l, lenD_t, lenD_s, intD_i, intD_b, n1_a, lim_a, ixD_l, ixD_t, truth_n, truth_b, truth_i, truth_t, truth_l, isTy_ii, isTy_ib, isTy_in, isTy_is, isTy_it, isTy_il, isTy_bi, isTy_bb, isTy_ss, isTy_si, isTy_sb, isTy_sn, isTy_st, isTy_sl, isTy_tt, isTy_ti, isTy_tb, isTy_tn, isTy_ts, isTy_tl, isTy_ll, isTy_li, isTy_lb, isTy_ln, isTy_ls, isTy_lt, endsOf_r, endsOf_n, endsOf_e, endsIO_r, endsIO_n, endsIO_e, rng1_a, rng2_a, cond_true, cond_false, Bool.and_true, Bool.true_and, Bool.and_false, Bool.false_and, Bool.or_true, Bool.true_or, Bool.or_false, Bool.false_or, Bool.not_true, Bool.not_false, decide_true, decide_false, Bool.false_eq_true, Bool.true_eq_false, if_true, if_false, eq_self, List.getElem?_cons_zero, List.getElem?_cons_succ, List.set_cons_zero, List.set_cons_succ, List.length_cons, List.length_nil, List.length_set, List.map_cons, List.map_nil, List.replicate, List.append_nil, List.nil_append, List.cons_append, Option.bind_some, Option.bind_none, Option.map_some, Option.map_none, Nat.reduceAdd, Nat.reduceSub, Nat.reduceLT, Nat.reduceLeDiff, Nat.reduceEqDiff, ↓reduceIte, e1, e2]
end
theorem at_idx {n k : Nat} (h : k < n) : L2.atI (idxD n) (k : Int) = some (.int (k : Int)) := by
  rw [atI_at (by omega) (by unfold idxD; simp; omega)]
  unfold idxD
  rw [List.getElem?_map, show (k : Int).toNat = k by omega, List.getElem?_range h]
  rfl
theorem at_dat {n k : Nat} {m : Nat → Nat} (h : k < n) : L2.atI (dat n m) (k : Int) = some (.int (m k : Int)) := by
  rw [atI_at (by omega) (by rw [dat_len]; omega)]
  unfold dat
  rw [List.getElem?_map, show (k : Int).toNat = k by omega, List.getElem?_range h]
  rfl
theorem g67 {u v : D} {y0 y1 y2 y3 y4 y5 y6 y7 y8 : Option (D × Kd)} : gTp 2 (gsC (gN 6) (gsC (gN 7) gsN)) (D.tup [u, v], Kd.z) [y0, y1, y2, y3, y4, y5, y6, y7, y8] = some [y0, y1, y2, y3, y4, y5, some (u, .z), some (v, .z), y8] := rfl
theorem idx_len {n : Nat} : (idxD n).length = n := by unfold idxD; simp
section
variable {x n : Nat} {m : Nat → Nat} (hx : x < 16) (hn : n ≤ 16) (hm : ∀ i, i < n → m i < 16)
include hx
theorem la0 {k j a b : Nat} (hk : k < n) (hj : j < n) (hn : n ≤ 16) (ha : a < 16) (hb : b < 16) {P W x8 : Option (D × Kd)} :
    l__law_at_0 [P, some (.lst (idxD n), .z), some (.int (x : Int), .z), W, some (.int (k : Int), .z), some (.int (j : Int), .z), some (.int (a : Int), .z), some (.int (b : Int), .z), x8]
      = some (.ok .nx, [P, some (.lst (idxD n), .z), some (.int (x : Int), .z), W, some (.int (k : Int), .z), some (.int (j : Int), .z), some (.int ((nds x k (a, b) j).1 : Int), .z), some (.int ((nds x k (a, b) j).2 : Int), .z), x8]) := by
  have e1 := lprod_eq ha (xor_lt hx (show j < 16 by omega))
  have e2 := lprod_eq hb (xor_lt (show k < 16 by omega) (show j < 16 by omega))
  by_cases h : j = k
  · subst h
    simp only [l__law_at_0, ↓bnd_def, ↓giv_a, ↓opt_a, ↓mSeq_a, ↓mIf_a, ↓mB_a, ↓mT_a, ↓m1_a, ↓mN_a, ↓m2_a, ↓mCh_a, ↓mAnd_a, ↓mOr_a, ↓vAnd_a, ↓vOr_a, ↓vNot_a, ↓vB_t, ↓vB_f, ↓vB0_t, ↓vB0_f, ↓cond_t, ↓cond_f, ↓unO_a, ↓toO_a, ↓mCall_a, ↓has_a, ↓mCallIO_a, ↓aNil_a, ↓aCons_a, ↓rdv_a, ↓mIxB_a, ↓mLenB_a, ↓mStIx_a, ↓put_a, ↓mSet_a, ↓mSetO_a, ↓mAug_a, ↓mRet_a, ↓mRetO_a, ↓mDrop_a, ↓mRaise_a, ↓mLstO_a, ↓mPar_a, ↓mFor_a, ↓mRg_a, ↓mIt_a, ↓mAsg_a, ↓mLc_a, ↓mItA_a, ↓hasL_a, ↓mUp1_a, ↓mSl_a, ↓mPart_a, ↓mJoin_a, ↓mDispO_a, ↓mPairs_n, ↓mPairs_c, ↓mListO_a, ↓mRepL_a, wp_nil, wp_cons, lg_s, RsQ_ok, sole_a, enumF_a, itemsD_l, itemsD_t, itemsD_s, zipF_l, zipF_t, upL_a, fApp_a, asI2_i, gSl_l, gSl_t, gSl_s, gAddX_i, gAddX_s, gAddX_t, gAddX_l, gMulX_i, gMulX_s, gMulX_t, gRepL_a, ixX_l, ixX_t, ixX_s, ixD_s, gEqX_a, gNeX_a, eqX_i, eqX_b, eqX_s, eqX_n, eqX_ni, eqX_in, eqX_t, eqX_l, gIn_a, gNotIn_a, gInX_s, sgnIn_a, gInX_t, gInX_l, gIsN_a, gNotN_a, isNon_n, isNon_i, isNon_t, isNon_l, isNon_s, asStr_a, gJoin_l, gJoin_t, gSum_a, gAll_a, gMax2_a, gMin2_a, gAbs_a, gTup_l, gTup_t, gLst_l, gLst_t, gRev_t, gRev_l, gRev_s, lcW_a, isTy_ds, ↓mForD_a, ↓mDictEnum_a, ↓mListRng_a, dw_a, dwv_d, qtS_a, dictEnum_l, dictEnum_t, lsRng_a, gShr_a, gShl_a, Rs_ok, Rs_exn, atI_0, ixN_0, atI_1, ixN_1, atI_2, ixN_2, atI_3, ixN_3, atI_4, ixN_4, atI_5, ixN_5, atI_6, ixN_6, atI_7, ixN_7, atI_8, ixN_8, atI_9, ixN_9, atI_10, ixN_10, atI_11, ixN_11, atI_12, ixN_12, atI_13, ixN_13, atI_14, ixN_14, atI_15, ixN_15, atI_16, ixN_16, sq_nx, sq_ct, sq_bk, sq_rt, sq_ex, lp_nx, lp_ct, lp_bk, lp_rt, lp_ex, tn_s, rd_z, rd_s, hs_s, cl_s, ci_s, cj_s, bw_s, brw_a, br_z, br_l, ownL_a, ow_l, ag_s, op_s, asB_b, asI_i, stL_a, gN_a, gAdd_a, gSub_a, gXor_a, gAnd_a, gLt_a, gLe_a, gGt_a, gGe_a, gMul_a, gDiv_a, gMod_a, gPow_a, gNeg_a, gNot_a, gEq_a, gNe_a, eqS_i, eqS_b, eqS_s, eqS_n, eqS_ni, eqS_in, lenD_l, lenD_t, lenD_s, intD_i, intD_b, n1_a, lim_a, ixD_l, ixD_t, truth_n, truth_b, truth_i, truth_t, truth_l, isTy_ii, isTy_ib, isTy_in, isTy_is, isTy_it, isTy_il, isTy_bi, isTy_bb, isTy_ss, isTy_si, isTy_sb, isTy_sn, isTy_st, isTy_sl, isTy_tt, isTy_ti, isTy_tb, isTy_tn, isTy_ts, isTy_tl, isTy_ll, isTy_li, isTy_lb, isTy_ln, isTy_ls, isTy_lt, endsOf_r, endsOf_n, endsOf_e, endsIO_r, endsIO_n, endsIO_e, rng1_a, rng2_a, cond_true, cond_false, Bool.and_true, Bool.true_and, Bool.and_false, Bool.false_and, Bool.or_true, Bool.true_or, Bool.or_false, Bool.false_or, Bool.not_true, Bool.not_false, decide_true, decide_false, Bool.false_eq_true, Bool.true_eq_false, if_true, if_false, eq_self, List.getElem?_cons_zero, List.getElem?_cons_succ, List.set_cons_zero, List.set_cons_succ, List.length_cons, List.length_nil, List.length_set, List.map_cons, List.map_nil, List.replicate, List.append_nil, List.nil_append, List.cons_append, Option.bind_some, Option.bind_none, Option.map_some, Option.map_none, Nat.reduceAdd, Nat.reduceSub, Nat.reduceLT, Nat.reduceLeDiff, Nat.reduceEqDiff, ↓reduceIte, nds]
  · have h2 : ¬ (j : Int) = (k : Int) := by omega
    simp only [l__law_at_0, ↓bnd_def, ↓giv_a, ↓opt_a, ↓mSeq_a, ↓mIf_a, ↓mB_a, ↓mT_a, ↓m1_a, ↓mN_a, ↓m2_a, ↓mCh_a, ↓mAnd_a, ↓mOr_a, ↓vAnd_a, ↓vOr_a, ↓vNot_a, ↓vB_t, ↓vB_f, ↓vB0_t, ↓vB0_f, ↓cond_t, ↓cond_f, ↓unO_a, ↓toO_a, ↓mCall_a, ↓has_a, ↓mCallIO_a, ↓aNil_a, ↓aCons_a, ↓rdv_a, ↓mIxB_a, ↓mLenB_a, ↓mStIx_a, ↓put_a, ↓mSet_a, ↓mSetO_a, ↓mAug_a, ↓mRet_a, ↓mRetO_a, ↓mDrop_a, ↓mRaise_a, ↓mLstO_a, ↓mPar_a, ↓mFor_a, ↓mRg_a, ↓mIt_a, ↓mAsg_a, ↓mLc_a, ↓mItA_a, ↓hasL_a, ↓mUp1_a, ↓mSl_a, ↓mPart_a, ↓mJoin_a, ↓mDispO_a, ↓mPairs_n, ↓mPairs_c, ↓mListO_a, ↓mRepL_a, wp_nil, wp_cons, lg_s, RsQ_ok, sole_a, enumF_a, itemsD_l, itemsD_t, itemsD_s, zipF_l, zipF_t, upL_a, fApp_a, asI2_i, gSl_l, gSl_t, gSl_s, gAddX_i, gAddX_s, gAddX_t, gAddX_l, gMulX_i, gMulX_s, gMulX_t, gRepL_a, ixX_l, ixX_t, ixX_s, ixD_s, gEqX_a, gNeX_a, eqX_i, eqX_b, eqX_s, eqX_n, eqX_ni, eqX_in, eqX_t, eqX_l, gIn_a, gNotIn_a, gInX_s, sgnIn_a, gInX_t, gInX_l, gIsN_a, gNotN_a, isNon_n, isNon_i, isNon_t, isNon_l, isNon_s, asStr_a, gJoin_l, gJoin_t, gSum_a, gAll_a, gMax2_a, gMin2_a, gAbs_a, gTup_l, gTup_t, gLst_l, gLst_t, gRev_t, gRev_l, gRev_s, lcW_a, isTy_ds, ↓mForD_a, ↓mDictEnum_a, ↓mListRng_a, dw_a, dwv_d, qtS_a, dictEnum_l, dictEnum_t, lsRng_a, gShr_a, gShl_a, Rs_ok, Rs_exn, atI_0, ixN_0, atI_1, ixN_1, atI_2, ixN_2, atI_3, ixN_3, atI_4, ixN_4, atI_5, ixN_5, atI_6, ixN_6, atI_7, ixN_7, atI_8, ixN_8, atI_9, ixN_9, atI_10, ixN_10, atI_11, ixN_11, atI_12, ixN_12, atI_13, ixN_13, atI_14, ixN_14, atI_15, ixN_15, atI_16, ixN_16, sq_nx, sq_ct, sq_bk, sq_rt, sq_ex, lp_nx, lp_ct, lp_bk, lp_rt, lp_ex, tn_s, rd_z, rd_s, hs_s, cl_s, ci_s, cj_s, bw_s, brw_a, br_z, br_l, ownL_a, ow_l, ag_s, op_s, asB_b, asI_i, stL_a, gN_a, gAdd_a, gSub_a, gXor_a, gAnd_a, gLt_a, gLe_a, gGt_a, gGe_a, gMul_a, gDiv_a, gMod_a, gPow_a, gNeg_a, gNot_a, gEq_a, gNe_a, eqS_i, eqS_b, eqS_s, eqS_n, eqS_ni, eqS_in, lenD_l, lenD_t, lenD_s, intD_i, intD_b, n1_a, lim_a, ixD_l, ixD_t, truth_n, truth_b, truth_i, truth_t, truth_l, isTy_ii, isTy_ib, isTy_in, isTy_is, isTy_it, isTy_il, isTy_bi, isTy_bb, isTy_ss, isTy_si, isTy_sb, isTy_sn, isTy_st, isTy_sl, isTy_tt, isTy_ti, isTy_tb, isTy_tn, isTy_ts, isTy_tl, isTy_ll, isTy_li, isTy_lb, isTy_ln, isTy_ls, isTy_lt, endsOf_r, endsOf_n, endsOf_e, endsIO_r, endsIO_n, endsIO_e, rng1_a, rng2_a, cond_true, cond_false, Bool.and_true, Bool.true_and, Bool.and_false, Bool.false_and, Bool.or_true, Bool.true_or, Bool.or_false, Bool.false_or, Bool.not_true, Bool.not_false, decide_true, decide_false, Bool.false_eq_true, Bool.true_eq_false, if_true, if_false, eq_self, List.getElem?_cons_zero, List.getElem?_cons_succ, List.set_cons_zero, List.set_cons_succ, List.length_cons, List.length_nil, List.length_set, List.map_cons, List.map_nil, List.replicate, List.append_nil, List.nil_append, List.cons_append, Option.bind_some, Option.bind_none, Option.map_some, Option.map_none, Nat.reduceAdd, Nat.reduceSub, Nat.reduceLT, Nat.reduceLeDiff, Nat.reduceEqDiff, ↓reduceIte, nds, h, h2, at_idx hk, at_idx hj, xor_i hx (show j < 16 by omega), xor_i (show k < 16 by omega) (show j < 16 by omega), e1, e2, g67, ag_s]
include hn hm
theorem la2 {k : Nat} (hk : k < n) {r : Nat} (hr : r < 16) {a5 a6 a7 a8 : Option (D × Kd)} : ∃ b5 b6 b7 b8,
    l__law_at_2 [some (.tup (dat n m), .z), some (.lst (idxD n), .z), some (.int (x : Int), .z), some (.int (r : Int), .z), some (.int (k : Int), .z), a5, a6, a7, a8]
      = some (.ok .nx, [some (.tup (dat n m), .z), some (.lst (idxD n), .z), some (.int (x : Int), .z), some (.int ((r ^^^ gm (nd x k (m k) n).1 (gi (nd x k (m k) n).2) : Nat) : Int), .z), some (.int (k : Int), .z), b5, b6, b7, b8]) := by
  have q := nd_ok (x := x) (k := k) (v := m k) (n := n) hx (by omega) (hm k hk) hn
  obtain ⟨μ2, e, ⟨b5, rfl⟩, _⟩ := turns_list (g := gN 5) (b := l__law_at_0) (fun j : Nat => D.int (j : Int)) (fun p μ => (∃ b5, μ = [some (.tup (dat n m), .z), some (.lst (idxD n), .z), some (.int (x : Int), .z), some (.int (r : Int), .z), some (.int (k : Int), .z), b5, some (.int (p.1 : Nat), .z), some (.int (p.2 : Nat), .z), a8]) ∧ p.1 < 16 ∧ p.2 < 16 ∧ p.2 ≠ 0)
    (nds x k) (List.range n) (m k, 1) [some (.tup (dat n m), .z), some (.lst (idxD n), .z), some (.int (x : Int), .z), some (.int (r : Int), .z), some (.int (k : Int), .z), a5, some (.int (m k : Nat), .z), some (.int (1 : Nat), .z), a8] ⟨⟨_, rfl⟩, hm k hk, Nat.lt_of_lt_of_le Nat.one_lt_two (by decide), Nat.one_ne_zero⟩ fun p μ j h hj => by
      obtain ⟨⟨b5, rfl⟩, h1, h2, h3⟩ := h
      have hj' := List.mem_range.mp hj
      exact ⟨_, rfl, _, ⟨⟨_, rfl⟩, nds_ok hx (by omega) (by omega) ⟨h1, h2, h3⟩⟩, .inl (la0 hx hk hj' hn h1 h2)⟩
  rw [← range0] at e
  have e' : mTurns (gN 5) l__law_at_0 (rangeD 0 (n : Int)) [some (.tup (dat n m), .z), some (.lst (idxD n), .z), some (.int (x : Int), .z), some (.int (r : Int), .z), some (.int (k : Int), .z), a5, some (.int (m k : Nat), .z), some (.int 1, .z), a8] = some (.ok .nx, [some (.tup (dat n m), .z), some (.lst (idxD n), .z), some (.int (x : Int), .z), some (.int (r : Int), .z), some (.int (k : Int), .z), b5, some (.int ((nd x k (m k) n).1 : Nat), .z), some (.int ((nd x k (m k) n).2 : Nat), .z), a8]) := e
  generalize nd x k (m k) n = pq at q e'
  obtain ⟨a, b⟩ := pq
  dsimp only at q e'
  have ef := lc_flt (vs := [8]) (g := gN 8) (t := mB (m2 gEqX (unO (mCall f__law_product (aCons (rdv 8) (aCons (rdv 7) aNil)))) (rdv 6))) (e := l__law_at_1) (μ0 := [some (.tup (dat n m), .z), some (.lst (idxD n), .z), some (.int (x : Int), .z), some (.int (r : Int), .z), some (.int (k : Int), .z), b5, some (.int (a : Int), .z), some (.int (b : Int), .z), none])
    (fun j : Nat => D.int (j : Int)) (fun j : Nat => D.int (j : Int)) (fun j => gm j b == a) (List.range 16) fun j hj => by
      have e1 := lprod_eq (List.mem_range.mp hj) q.2.1
      have d : decide (((gm j b : Nat) : Int) = (a : Int)) = (gm j b == a) := by
        by_cases z : gm j b = a
        · rw [decide_eq_true (by omega), beq_iff_eq.mpr z]
        · rw [decide_eq_false (by omega), beq_eq_false_iff_ne.mpr z]
      refine ⟨[some (.tup (dat n m), .z), some (.lst (idxD n), .z), some (.int (x : Int), .z), some (.int (r : Int), .z), some (.int (k : Int), .z), b5, some (.int (a : Int), .z), some (.int (b : Int), .z), some (.int (j : Int), .z)], rfl, ?_, ?_, rfl⟩
      · simp only [↓bnd_def, ↓giv_a, ↓opt_a, ↓mSeq_a, ↓mIf_a, ↓mB_a, ↓mT_a, ↓m1_a, ↓mN_a, ↓m2_a, ↓mCh_a, ↓mAnd_a, ↓mOr_a, ↓vAnd_a, ↓vOr_a, ↓vNot_a, ↓vB_t, ↓vB_f, ↓vB0_t, ↓vB0_f, ↓cond_t, ↓cond_f, ↓unO_a, ↓toO_a, ↓mCall_a, ↓has_a, ↓mCallIO_a, ↓aNil_a, ↓aCons_a, ↓rdv_a, ↓mIxB_a, ↓mLenB_a, ↓mStIx_a, ↓put_a, ↓mSet_a, ↓mSetO_a, ↓mAug_a, ↓mRet_a, ↓mRetO_a, ↓mDrop_a, ↓mRaise_a, ↓mLstO_a, ↓mPar_a, ↓mFor_a, ↓mRg_a, ↓mIt_a, ↓mAsg_a, ↓mLc_a, ↓mItA_a, ↓hasL_a, ↓mUp1_a, ↓mSl_a, ↓mPart_a, ↓mJoin_a, ↓mDispO_a, ↓mPairs_n, ↓mPairs_c, ↓mListO_a, ↓mRepL_a, wp_nil, wp_cons, lg_s, RsQ_ok, sole_a, enumF_a, itemsD_l, itemsD_t, itemsD_s, zipF_l, zipF_t, upL_a, fApp_a, asI2_i, gSl_l, gSl_t, gSl_s, gAddX_i, gAddX_s, gAddX_t, gAddX_l, gMulX_i, gMulX_s, gMulX_t, gRepL_a, ixX_l, ixX_t, ixX_s, ixD_s, gEqX_a, gNeX_a, eqX_i, eqX_b, eqX_s, eqX_n, eqX_ni, eqX_in, eqX_t, eqX_l, gIn_a, gNotIn_a, gInX_s, sgnIn_a, gInX_t, gInX_l, gIsN_a, gNotN_a, isNon_n, isNon_i, isNon_t, isNon_l, isNon_s, asStr_a, gJoin_l, gJoin_t, gSum_a, gAll_a, gMax2_a, gMin2_a, gAbs_a, gTup_l, gTup_t, gLst_l, gLst_t, gRev_t, gRev_l, gRev_s, lcW_a, isTy_ds, ↓mForD_a, ↓mDictEnum_a, ↓mListRng_a, dw_a, dwv_d, qtS_a, dictEnum_l, dictEnum_t, lsRng_a, gShr_a, gShl_a, Rs_ok, Rs_exn, atI_0, ixN_0, atI_1, ixN_1, atI_2, ixN_2, atI_3, ixN_3, atI_4, ixN_4, atI_5, ixN_5, atI_6, ixN_6, atI_7, ixN_7, atI_8, ixN_8, atI_9, ixN_9, atI_10, ixN_10, atI_11, ixN_11, atI_12, ixN_12, atI_13, ixN_13, atI_14, ixN_14, atI_15, ixN_15, atI_16, ixN_16, sq_nx, sq_ct, sq_bk, sq_rt, sq_ex, lp_nx, lp_ct, lp_bk, lp_rt, lp_ex, tn_s, rd_z, rd_s, hs_s, cl_s, ci_s, cj_s, bw_s, brw_a, br_z, br_l, ownL_a, ow_l, ag_s, op_s, asB_b, asI_i, stL_a, gN_a, gAdd_a, gSub_a, gXor_a, gAnd_a, gLt_a, gLe_a, gGt_a, gGe_a, gMul_a, gDiv_a, gMod_a, gPow_a, gNeg_a, gNot_a, gEq_a, gNe_a, eqS_i, eqS_b, eqS_s, eqS_n, eqS_ni, eqS_in, lenD_l, lenD_t, lenD_s, intD_i, intD_b, n1_a, lim_a, ixD_l, ixD_t, truth_n, truth_b, truth_i, truth_t, truth_l, isTy_ii, isTy_ib, isTy_in, isTy_is, isTy_it, isTy_il, isTy_bi, isTy_bb, isTy_ss, isTy_si, isTy_sb, isTy_sn, isTy_st, isTy_sl, isTy_tt, isTy_ti, isTy_tb, isTy_tn, isTy_ts, isTy_tl, isTy_ll, isTy_li, isTy_lb, isTy_ln, isTy_ls, isTy_lt, endsOf_r, endsOf_n, endsOf_e, endsIO_r, endsIO_n, endsIO_e, rng1_a, rng2_a, cond_true, cond_false, Bool.and_true, Bool.true_and, Bool.and_false, Bool.false_and, Bool.or_true, Bool.true_or, Bool.or_false, Bool.false_or, Bool.not_true, Bool.not_false, decide_true, decide_false, Bool.false_eq_true, Bool.true_eq_false, if_true, if_false, eq_self, List.getElem?_cons_zero, List.getElem?_cons_succ, List.set_cons_zero, List.set_cons_succ, List.length_cons, List.length_nil, List.length_set, List.map_cons, List.map_nil, List.replicate, List.append_nil, List.nil_append, List.cons_append, Option.bind_some, Option.bind_none, Option.map_some, Option.map_none, Nat.reduceAdd, Nat.reduceSub, Nat.reduceLT, Nat.reduceLeDiff, Nat.reduceEqDiff, ↓reduceIte, e1, d]
      · simp only [l__law_at_1, ↓bnd_def, ↓giv_a, ↓opt_a, ↓mSeq_a, ↓mIf_a, ↓mB_a, ↓mT_a, ↓m1_a, ↓mN_a, ↓m2_a, ↓mCh_a, ↓mAnd_a, ↓mOr_a, ↓vAnd_a, ↓vOr_a, ↓vNot_a, ↓vB_t, ↓vB_f, ↓vB0_t, ↓vB0_f, ↓cond_t, ↓cond_f, ↓unO_a, ↓toO_a, ↓mCall_a, ↓has_a, ↓mCallIO_a, ↓aNil_a, ↓aCons_a, ↓rdv_a, ↓mIxB_a, ↓mLenB_a, ↓mStIx_a, ↓put_a, ↓mSet_a, ↓mSetO_a, ↓mAug_a, ↓mRet_a, ↓mRetO_a, ↓mDrop_a, ↓mRaise_a, ↓mLstO_a, ↓mPar_a, ↓mFor_a, ↓mRg_a, ↓mIt_a, ↓mAsg_a, ↓mLc_a, ↓mItA_a, ↓hasL_a, ↓mUp1_a, ↓mSl_a, ↓mPart_a, ↓mJoin_a, ↓mDispO_a, ↓mPairs_n, ↓mPairs_c, ↓mListO_a, ↓mRepL_a, wp_nil, wp_cons, lg_s, RsQ_ok, sole_a, enumF_a, itemsD_l, itemsD_t, itemsD_s, zipF_l, zipF_t, upL_a, fApp_a, asI2_i, gSl_l, gSl_t, gSl_s, gAddX_i, gAddX_s, gAddX_t, gAddX_l, gMulX_i, gMulX_s, gMulX_t, gRepL_a, ixX_l, ixX_t, ixX_s, ixD_s, gEqX_a, gNeX_a, eqX_i, eqX_b, eqX_s, eqX_n, eqX_ni, eqX_in, eqX_t, eqX_l, gIn_a, gNotIn_a, gInX_s, sgnIn_a, gInX_t, gInX_l, gIsN_a, gNotN_a, isNon_n, isNon_i, isNon_t, isNon_l, isNon_s, asStr_a, gJoin_l, gJoin_t, gSum_a, gAll_a, gMax2_a, gMin2_a, gAbs_a, gTup_l, gTup_t, gLst_l, gLst_t, gRev_t, gRev_l, gRev_s, lcW_a, isTy_ds, ↓mForD_a, ↓mDictEnum_a, ↓mListRng_a, dw_a, dwv_d, qtS_a, dictEnum_l, dictEnum_t, lsRng_a, gShr_a, gShl_a, Rs_ok, Rs_exn, atI_0, ixN_0, atI_1, ixN_1, atI_2, ixN_2, atI_3, ixN_3, atI_4, ixN_4, atI_5, ixN_5, atI_6, ixN_6, atI_7, ixN_7, atI_8, ixN_8, atI_9, ixN_9, atI_10, ixN_10, atI_11, ixN_11, atI_12, ixN_12, atI_13, ixN_13, atI_14, ixN_14, atI_15, ixN_15, atI_16, ixN_16, sq_nx, sq_ct, sq_bk, sq_rt, sq_ex, lp_nx, lp_ct, lp_bk, lp_rt, lp_ex, tn_s, rd_z, rd_s, hs_s, cl_s, ci_s, cj_s, bw_s, brw_a, br_z, br_l, ownL_a, ow_l, ag_s, op_s, asB_b, asI_i, stL_a, gN_a, gAdd_a, gSub_a, gXor_a, gAnd_a, gLt_a, gLe_a, gGt_a, gGe_a, gMul_a, gDiv_a, gMod_a, gPow_a, gNeg_a, gNot_a, gEq_a, gNe_a, eqS_i, eqS_b, eqS_s, eqS_n, eqS_ni, eqS_in, lenD_l, lenD_t, lenD_s, intD_i, intD_b, n1_a, lim_a, ixD_l, ixD_t, truth_n, truth_b, truth_i, truth_t, truth_l, isTy_ii, isTy_ib, isTy_in, isTy_is, isTy_it, isTy_il, isTy_bi, isTy_bb, isTy_ss, isTy_si, isTy_sb, isTy_sn, isTy_st, isTy_sl, isTy_tt, isTy_ti, isTy_tb, isTy_tn, isTy_ts, isTy_tl, isTy_ll, isTy_li, isTy_lb, isTy_ln, isTy_ls, isTy_lt, endsOf_r, endsOf_n, endsOf_e, endsIO_r, endsIO_n, endsIO_e, rng1_a, rng2_a, cond_true, cond_false, Bool.and_true, Bool.true_and, Bool.and_false, Bool.false_and, Bool.or_true, Bool.true_or, Bool.or_false, Bool.false_or, Bool.not_true, Bool.not_false, decide_true, decide_false, Bool.false_eq_true, Bool.true_eq_false, if_true, if_false, eq_self, List.getElem?_cons_zero, List.getElem?_cons_succ, List.set_cons_zero, List.set_cons_succ, List.length_cons, List.length_nil, List.length_set, List.map_cons, List.map_nil, List.replicate, List.append_nil, List.nil_append, List.cons_append, Option.bind_some, Option.bind_none, Option.map_some, Option.map_none, Nat.reduceAdd, Nat.reduceSub, Nat.reduceLT, Nat.reduceLeDiff, Nat.reduceEqDiff, ↓reduceIte]
  have e16 : rangeD 0 16 = (List.range 16).map fun (k : Nat) => D.int (k : Int) := range0 (c := 16)
  rw [quo q.1 q.2.1 q.2.2, ← e16] at ef
  have d1 : decide ((rangeD 0 16).length ≤ 16777216) = true := by decide
  have r1 : inR (n : Int) = true := inR_of (by omega) (by omega)
  have r2 : inR 16 = true := by decide
  have a0 : L2.atI [D.int ((gm a (gi b) : Nat) : Int)] 0 = some (.int ((gm a (gi b) : Nat) : Int)) := rfl
  have w : wp [8] [some (D.tup (dat n m), Kd.z), some (.lst (idxD n), .z), some (.int (x : Int), .z), some (.int (r : Int), .z), some (.int (k : Int), .z), b5, some (.int (a : Int), .z), some (.int (b : Int), .z), a8] = [some (D.tup (dat n m), Kd.z), some (.lst (idxD n), .z), some (.int (x : Int), .z), some (.int (r : Int), .z), some (.int (k : Int), .z), b5, some (.int (a : Int), .z), some (.int (b : Int), .z), none] := rfl
  refine ⟨b5, some (.int (a : Int), .z), some (.int (b : Int), .z), none, ?_⟩
  have xo := xor_i hr (gm_lt q.1 (gi_lt q.2.1))
  simp only [l__law_at_2, ↓bnd_def, ↓giv_a, ↓opt_a, ↓mSeq_a, ↓mIf_a, ↓mB_a, ↓mT_a, ↓m1_a, ↓mN_a, ↓m2_a, ↓mCh_a, ↓mAnd_a, ↓mOr_a, ↓vAnd_a, ↓vOr_a, ↓vNot_a, ↓vB_t, ↓vB_f, ↓vB0_t, ↓vB0_f, ↓cond_t, ↓cond_f, ↓unO_a, ↓toO_a, ↓mCall_a, ↓has_a, ↓mCallIO_a, ↓aNil_a, ↓aCons_a, ↓rdv_a, ↓mIxB_a, ↓mLenB_a, ↓mStIx_a, ↓put_a, ↓mSet_a, ↓mSetO_a, ↓mAug_a, ↓mRet_a, ↓mRetO_a, ↓mDrop_a, ↓mRaise_a, ↓mLstO_a, ↓mPar_a, ↓mFor_a, ↓mRg_a, ↓mIt_a, ↓mAsg_a, ↓mLc_a, ↓mItA_a, ↓hasL_a, ↓mUp1_a, ↓mSl_a, ↓mPart_a, ↓mJoin_a, ↓mDispO_a, ↓mPairs_n, ↓mPairs_c, ↓mListO_a, ↓mRepL_a, wp_nil, wp_cons, lg_s, RsQ_ok, sole_a, enumF_a, itemsD_l, itemsD_t, itemsD_s, zipF_l, zipF_t, upL_a, fApp_a, asI2_i, gSl_l, gSl_t, gSl_s, gAddX_i, gAddX_s, gAddX_t, gAddX_l, gMulX_i, gMulX_s, gMulX_t, gRepL_a, ixX_l, ixX_t, ixX_s, ixD_s, gEqX_a, gNeX_a, eqX_i, eqX_b, eqX_s, eqX_n, eqX_ni, eqX_in, eqX_t, eqX_l, gIn_a, gNotIn_a, gInX_s, sgnIn_a, gInX_t, gInX_l, gIsN_a, gNotN_a, isNon_n, isNon_i, isNon_t, isNon_l, isNon_s, asStr_a, gJoin_l, gJoin_t, gSum_a, gAll_a, gMax2_a, gMin2_a, gAbs_a, gTup_l, gTup_t, gLst_l, gLst_t, gRev_t, gRev_l, gRev_s, lcW_a, isTy_ds, ↓mForD_a, ↓mDictEnum_a, ↓mListRng_a, dw_a, dwv_d, qtS_a, dictEnum_l, dictEnum_t, lsRng_a, gShr_a, gShl_a, Rs_ok, Rs_exn, atI_0, ixN_0, atI_1, ixN_1, atI_2, ixN_2, atI_3, ixN_3, atI_4, ixN_4, atI_5, ixN_5, atI_6, ixN_6, atI_7, ixN_7, atI_8, ixN_8, atI_9, ixN_9, atI_10, ixN_10, atI_11, ixN_11, atI_12, ixN_12, atI_13, ixN_13, atI_14, ixN_14, atI_15, ixN_15, atI_16, ixN_16, sq_nx, sq_ct, sq_bk, sq_rt, sq_ex, lp_nx, lp_ct, lp_bk, lp_rt, lp_ex, tn_s, rd_z, rd_s, hs_s, cl_s, ci_s, cj_s, bw_s, brw_a, br_z, br_l, ownL_a, ow_l, ag_s, op_s, asB_b, asI_i, stL_a, gN_a, gAdd_a, gSub_a, gXor_a, gAnd_a, gLt_a, gLe_a, gGt_a, gGe_a, gMul_a, gDiv_a, gMod_a, gPow_a, gNeg_a, gNot_a, gEq_a, gNe_a, eqS_i, eqS_b, eqS_s, eqS_n, eqS_ni, eqS_in, lenD_l, lenD_t, lenD_s, intD_i, intD_b, n1_a, lim_a, ixD_l, ixD_t, truth_n, truth_b, truth_i, truth_t, truth_l, isTy_ii, isTy_ib, isTy_in, isTy_is, isTy_it, isTy_il, isTy_bi, isTy_bb, isTy_ss, isTy_si, isTy_sb, isTy_sn, isTy_st, isTy_sl, isTy_tt, isTy_ti, isTy_tb, isTy_tn, isTy_ts, isTy_tl, isTy_ll, isTy_li, isTy_lb, isTy_ln, isTy_ls, isTy_lt, endsOf_r, endsOf_n, endsOf_e, endsIO_r, endsIO_n, endsIO_e, rng1_a, rng2_a, cond_true, cond_false, Bool.and_true, Bool.true_and, Bool.and_false, Bool.false_and, Bool.or_true, Bool.true_or, Bool.or_false, Bool.false_or, Bool.not_true, Bool.not_false, decide_true, decide_false, Bool.false_eq_true, Bool.true_eq_false, if_true, if_false, eq_self, List.getElem?_cons_zero, List.getElem?_cons_succ, List.set_cons_zero, List.set_cons_succ, List.length_cons, List.length_nil, List.length_set, List.map_cons, List.map_nil, List.replicate, List.append_nil, List.nil_append, List.cons_append, Option.bind_some, Option.bind_none, Option.map_some, Option.map_none, Nat.reduceAdd, Nat.reduceSub, Nat.reduceLT, Nat.reduceLeDiff, Nat.reduceEqDiff, ↓reduceIte, at_dat hk, g67, ag_s, e', idx_len, r1, r2, d1, w, ef, a0, xo]
end
end G
end
section
namespace G
open Mn
section
variable {x n : Nat} {m : Nat → Nat} (hx : x < 16) (hn : n ≤ 16) (hm : ∀ i, i < n → m i < 16)
include hx hn hm
theorem law_at : f__law_at [.tup (dat n m), .lst (idxD n), .int (x : Int)] = some (.ok (.int ((itp x n m : Nat) : Int), .z)) := by
  obtain ⟨μ2, e, _, b4, b5, b6, b7, b8, rfl⟩ := turns_list (g := gN 4) (b := l__law_at_2) (fun k : Nat => D.int (k : Int))
    (fun (r : Nat) μ => r < 16 ∧ ∃ b4 b5 b6 b7 b8, μ = [some (.tup (dat n m), .z), some (.lst (idxD n), .z), some (.int (x : Int), .z), some (.int (r : Int), .z), b4, b5, b6, b7, b8])
    (fun r k => r ^^^ gm (nd x k (m k) n).1 (gi (nd x k (m k) n).2)) (List.range n) 0 [some (.tup (dat n m), .z), some (.lst (idxD n), .z), some (.int (x : Int), .z), some (.int ((0 : Nat) : Int), .z), none, none, none, none, none] ⟨by decide, _, _, _, _, _, rfl⟩ fun r μ k h hk => by
      obtain ⟨hr, b4, b5, b6, b7, b8, rfl⟩ := h
      have hk' := List.mem_range.mp hk
      have q := nd_ok (x := x) (k := k) (v := m k) (n := n) hx (by omega) (hm k hk') (by omega)
      obtain ⟨c5, c6, c7, c8, e⟩ := la2 hx (n := n) (m := m) (by omega) hm hk' hr (a5 := b5) (a6 := b6) (a7 := b7) (a8 := b8)
      exact ⟨_, rfl, _, ⟨xor_lt hr (gm_lt q.1 (gi_lt q.2.1)), _, _, _, _, _, rfl⟩, .inl e⟩
  rw [← range0] at e
  have e' : mTurns (gN 4) l__law_at_2 (rangeD 0 (n : Int)) [some (.tup (dat n m), .z), some (.lst (idxD n), .z), some (.int (x : Int), .z), some (.int 0, .z), none, none, none, none, none] = some (.ok .nx, [some (.tup (dat n m), .z), some (.lst (idxD n), .z), some (.int (x : Int), .z), some (.int ((itp x n m : Nat) : Int), .z), b4, b5, b6, b7, b8]) := e
  have r1 : inR (n : Int) = true := inR_of (by omega) (by omega)
  simp only [f__law_at, semF, b__law_at, mu0, ↓bnd_def, ↓giv_a, ↓opt_a, ↓mSeq_a, ↓mIf_a, ↓mB_a, ↓mT_a, ↓m1_a, ↓mN_a, ↓m2_a, ↓mCh_a, ↓mAnd_a, ↓mOr_a, ↓vAnd_a, ↓vOr_a, ↓vNot_a, ↓vB_t, ↓vB_f, ↓vB0_t, ↓vB0_f, ↓cond_t, ↓cond_f, ↓unO_a, ↓toO_a, ↓mCall_a, ↓has_a, ↓mCallIO_a, ↓aNil_a, ↓aCons_a, ↓rdv_a, ↓mIxB_a, ↓mLenB_a, ↓mStIx_a, ↓put_a, ↓mSet_a, ↓mSetO_a, ↓mAug_a, ↓mRet_a, ↓mRetO_a, ↓mDrop_a, ↓mRaise_a, ↓mLstO_a, ↓mPar_a, ↓mFor_a, ↓mRg_a, ↓mIt_a, ↓mAsg_a, ↓mLc_a, ↓mItA_a, ↓hasL_a, ↓mUp1_a, ↓mSl_a, ↓mPart_a, ↓mJoin_a, ↓mDispO_a, ↓mPairs_n, ↓mPairs_c, ↓mListO_a, ↓mRepL_a, wp_nil, wp_cons, lg_s, RsQ_ok, sole_a, enumF_a, itemsD_l, itemsD_t, itemsD_s, zipF_l, zipF_t, upL_a, fApp_a, asI2_i, gSl_l, gSl_t, gSl_s, gAddX_i, gAddX_s, gAddX_t, gAddX_l, gMulX_i, gMulX_s, gMulX_t, gRepL_a, ixX_l, ixX_t, ixX_s, ixD_s, gEqX_a, gNeX_a, eqX_i, eqX_b, eqX_s, eqX_n, eqX_ni, eqX_in, eqX_t, eqX_l, gIn_a, gNotIn_a, gInX_s, sgnIn_a, gInX_t, gInX_l, gIsN_a, gNotN_a, isNon_n, isNon_i, isNon_t, isNon_l, isNon_s, asStr_a, gJoin_l, gJoin_t, gSum_a, gAll_a, gMax2_a, gMin2_a, gAbs_a, gTup_l, gTup_t, gLst_l, gLst_t, gRev_t, gRev_l, gRev_s, lcW_a, isTy_ds, ↓mForD_a, ↓mDictEnum_a, ↓mListRng_a, dw_a, dwv_d, qtS_a, dictEnum_l, dictEnum_t, lsRng_a, gShr_a, gShl_a, Rs_ok, Rs_exn, atI_0, ixN_0, atI_1, ixN_1, atI_2, ixN_2, atI_3, ixN_3, atI_4, ixN_4, atI_5, ixN_5, atI_6, ixN_6, atI_7, ixN_7, atI_8, ixN_8, atI_9, ixN_9, atI_10, ixN_10, atI_11, ixN_11, atI_12, ixN_12, atI_13, ixN_13, atI_14, ixN_14, atI_15, ixN_15, atI_16, ixN_16, sq_nx, sq_ct, sq_bk, sq_rt, sq_ex, lp_nx, lp_ct, lp_bk, lp_rt, lp_ex, tn_s, rd_z, rd_s, hs_s, cl_s, ci_s, cj_s, bw_s, brw_a, br_z, br_l, ownL_a, ow_l, ag_s, op_s, asB_b, asI_i, stL_a, gN_a, gAdd_a, gSub_a, gXor_a, gAnd_a, gLt_a, gLe_a, gGt_a, gGe_a, gMul_a, gDiv_a, gMod_a, gPow_a, gNeg_a, gNot_a, gEq_a, gNe_a, eqS_i, eqS_b, eqS_s, eqS_n, eqS_ni, eqS_in, lenD_l, lenD_t, lenD_s, intD_i, intD_b, n1_a, lim_a, ixD_l, ixD_t, truth_n, truth_b, truth_i, truth_t, truth_l, isTy_ii, isTy_ib, isTy_in, isTy_is, isTy_it, isTy_il, isTy_bi, isTy_bb, isTy_ss, isTy_si, isTy_sb, isTy_sn, isTy_st, isTy_sl, isTy_tt, isTy_ti, isTy_tb, isTy_tn, isTy_ts, isTy_tl, isTy_ll, isTy_li, isTy_lb, isTy_ln, isTy_ls, isTy_lt, endsOf_r, endsOf_n, endsOf_e, endsIO_r, endsIO_n, endsIO_e, rng1_a, rng2_a, cond_true, cond_false, Bool.and_true, Bool.true_and, Bool.and_false, Bool.false_and, Bool.or_true, Bool.true_or, Bool.or_false, Bool.false_or, Bool.not_true, Bool.not_false, decide_true, decide_false, Bool.false_eq_true, Bool.true_eq_false, if_true, if_false, eq_self, List.getElem?_cons_zero, List.getElem?_cons_succ, List.set_cons_zero, List.set_cons_succ, List.length_cons, List.length_nil, List.length_set, List.map_cons, List.map_nil, List.replicate, List.append_nil, List.nil_append, List.cons_append, Option.bind_some, Option.bind_none, Option.map_some, Option.map_none, Nat.reduceAdd, Nat.reduceSub, Nat.reduceLT, Nat.reduceLeDiff, Nat.reduceEqDiff, ↓reduceIte, idx_len, r1, e']
end
section
variable {n c : Nat} {m : Nat → Nat} (hm : ∀ i, i < n → m i < 16) (hc : n + c ≤ 16)
include hm hc
theorem law_block : f__law_block [.tup (dat n m), .int (c : Int)] = some (.ok (.tup (blk n m c), .z)) := by
  have e := lc_list (vs := [3]) (g := gN 3) (e := l__law_block_0) (μ0 := [some (.tup (dat n m), .z), some (.int (c : Int), .z), some (.lst (idxD n), .z), none]) (fun k : Nat => D.int (k : Int)) (fun t => D.int ((itp (n + t) n m : Nat) : Int)) (List.range c) fun t ht => by
    have ht' := List.mem_range.mp ht
    have e1 := law_at (x := n + t) (n := n) (m := m) (by omega) (by omega) hm
    have e2 : ((n + t : Nat) : Int) = (n : Int) + (t : Int) := by omega
    rw [e2] at e1
    refine ⟨_, rfl, [some (.tup (dat n m), .z), some (.int (c : Int), .z), some (.lst (idxD n), .z), some (.int (t : Int), .z)], ?_, rfl⟩
    simp only [l__law_block_0, ↓bnd_def, ↓giv_a, ↓opt_a, ↓mSeq_a, ↓mIf_a, ↓mB_a, ↓mT_a, ↓m1_a, ↓mN_a, ↓m2_a, ↓mCh_a, ↓mAnd_a, ↓mOr_a, ↓vAnd_a, ↓vOr_a, ↓vNot_a, ↓vB_t, ↓vB_f, ↓vB0_t, ↓vB0_f, ↓cond_t, ↓cond_f, ↓unO_a, ↓toO_a, ↓mCall_a, ↓has_a, ↓mCallIO_a, ↓aNil_a, ↓aCons_a, ↓rdv_a, ↓mIxB_a, ↓mLenB_a, ↓mStIx_a, ↓put_a, ↓mSet_a, ↓mSetO_a, ↓mAug_a, ↓mRet_a, ↓mRetO_a, ↓mDrop_a, ↓mRaise_a, ↓mLstO_a, ↓mPar_a, ↓mFor_a, ↓mRg_a, ↓mIt_a, ↓mAsg_a, ↓mLc_a, ↓mItA_a, ↓hasL_a, ↓mUp1_a, ↓mSl_a, ↓mPart_a, ↓mJoin_a, ↓mDispO_a, ↓mPairs_n, ↓mPairs_c, ↓mListO_a, ↓mRepL_a, wp_nil, wp_cons, lg_s, RsQ_ok, sole_a, enumF_a, itemsD_l, itemsD_t, itemsD_s, zipF_l, zipF_t, upL_a, fApp_a, asI2_i, gSl_l, gSl_t, gSl_s, gAddX_i, gAddX_s, gAddX_t, gAddX_l, gMulX_i, gMulX_s, gMulX_t, gRepL_a, ixX_l, ixX_t, ixX_s, ixD_s, gEqX_a, gNeX_a, eqX_i, eqX_b, eqX_s, eqX_n, eqX_ni, eqX_in, eqX_t, eqX_l, gIn_a, gNotIn_a, gInX_s, sgnIn_a, gInX_t, gInX_l, gIsN_a, gNotN_a, isNon_n, isNon_i, isNon_t, isNon_l, isNon_s, asStr_a, gJoin_l, gJoin_t, gSum_a, gAll_a, gMax2_a, gMin2_a, gAbs_a, gTup_l, gTup_t, gLst_l, gLst_t, gRev_t, gRev_l, gRev_s, lcW_a, isTy_ds, ↓mForD_a, ↓mDictEnum_a, ↓mListRng_a, dw_a, dwv_d, qtS_a, dictEnum_l, dictEnum_t, lsRng_a, gShr_a, gShl_a, Rs_ok, Rs_exn, atI_0, ixN_0, atI_1, ixN_1, atI_2, ixN_2, atI_3, ixN_3, atI_4, ixN_4, atI_5, ixN_5, atI_6, ixN_6, atI_7, ixN_7, atI_8, ixN_8, atI_9, ixN_9, atI_10, ixN_10, atI_11, ixN_11, atI_12, ixN_12, atI_13, ixN_13, atI_14, ixN_14, atI_15, ixN_15, atI_16, ixN_16, sq_nx, sq_ct, sq_bk, sq_rt, sq_ex, lp_nx, lp_ct, lp_bk, lp_rt, lp_ex, tn_s, rd_z, rd_s, hs_s, cl_s, ci_s, cj_s, bw_s, brw_a, br_z, br_l, ownL_a, ow_l, ag_s, op_s, asB_b, asI_i, stL_a, gN_a, gAdd_a, gSub_a, gXor_a, gAnd_a, gLt_a, gLe_a, gGt_a, gGe_a, gMul_a, gDiv_a, gMod_a, gPow_a, gNeg_a, gNot_a, gEq_a, gNe_a, eqS_i, eqS_b, eqS_s, eqS_n, eqS_ni, eqS_in, lenD_l, lenD_t, lenD_s, intD_i, intD_b, n1_a, lim_a, ixD_l, ixD_t, truth_n, truth_b, truth_i, truth_t, truth_l, isTy_ii, isTy_ib, isTy_in, isTy_is, isTy_it, isTy_il, isTy_bi, isTy_bb, isTy_ss, isTy_si, isTy_sb, isTy_sn, isTy_st, isTy_sl, isTy_tt, isTy_ti, isTy_tb, isTy_tn, isTy_ts, isTy_tl, isTy_ll, isTy_li, isTy_lb, isTy_ln, isTy_ls, isTy_lt, endsOf_r, endsOf_n, endsOf_e, endsIO_r, endsIO_n, endsIO_e, rng1_a, rng2_a, cond_true, cond_false, Bool.and_true, Bool.true_and, Bool.and_false, Bool.false_and, Bool.or_true, Bool.true_or, Bool.or_false, Bool.false_or, Bool.not_true, Bool.not_false, decide_true, decide_false, Bool.false_eq_true, Bool.true_eq_false, if_true, if_false, eq_self, List.getElem?_cons_zero, List.getElem?_cons_succ, List.set_cons_zero, List.set_cons_succ, List.length_cons, List.length_nil, List.length_set, List.map_cons, List.map_nil, List.replicate, List.append_nil, List.nil_append, List.cons_append, Option.bind_some, Option.bind_none, Option.map_some, Option.map_none, Nat.reduceAdd, Nat.reduceSub, Nat.reduceLT, Nat.reduceLeDiff, Nat.reduceEqDiff, ↓reduceIte, dat_len, e1]
  rw [← range0] at e
  have r1 : inR (c : Int) = true := inR_of (by omega) (by omega)
  have r2 : inR (n : Int) = true := inR_of (by omega) (by omega)
  have d1 : decide (((rangeD 0 (c : Int))).length ≤ 16777216) = true := decide_eq_true (by rw [range0]; simp; omega)
  have d2 : decide (n + c ≤ 16777216) = true := decide_eq_true (by omega)
  have d3 : decide (n ≤ 16777216) = true := decide_eq_true (by omega)
  have t1 : (n : Int).toNat = n := by omega
  have w : wp [3] [some (D.tup (dat n m), Kd.z), some (.int (c : Int), .z), some (.lst (idxD n), .z), none] = [some (D.tup (dat n m), Kd.z), some (.int (c : Int), .z), some (.lst (idxD n), .z), none] := rfl
  simp only [f__law_block, semF, b__law_block, mu0, ↓bnd_def, ↓giv_a, ↓opt_a, ↓mSeq_a, ↓mIf_a, ↓mB_a, ↓mT_a, ↓m1_a, ↓mN_a, ↓m2_a, ↓mCh_a, ↓mAnd_a, ↓mOr_a, ↓vAnd_a, ↓vOr_a, ↓vNot_a, ↓vB_t, ↓vB_f, ↓vB0_t, ↓vB0_f, ↓cond_t, ↓cond_f, ↓unO_a, ↓toO_a, ↓mCall_a, ↓has_a, ↓mCallIO_a, ↓aNil_a, ↓aCons_a, ↓rdv_a, ↓mIxB_a, ↓mLenB_a, ↓mStIx_a, ↓put_a, ↓mSet_a, ↓mSetO_a, ↓mAug_a, ↓mRet_a, ↓mRetO_a, ↓mDrop_a, ↓mRaise_a, ↓mLstO_a, ↓mPar_a, ↓mFor_a, ↓mRg_a, ↓mIt_a, ↓mAsg_a, ↓mLc_a, ↓mItA_a, ↓hasL_a, ↓mUp1_a, ↓mSl_a, ↓mPart_a, ↓mJoin_a, ↓mDispO_a, ↓mPairs_n, ↓mPairs_c, ↓mListO_a, ↓mRepL_a, wp_nil, wp_cons, lg_s, RsQ_ok, sole_a, enumF_a, itemsD_l, itemsD_t, itemsD_s, zipF_l, zipF_t, upL_a, fApp_a, asI2_i, gSl_l, gSl_t, gSl_s, gAddX_i, gAddX_s, gAddX_t, gAddX_l, gMulX_i, gMulX_s, gMulX_t, gRepL_a, ixX_l, ixX_t, ixX_s, ixD_s, gEqX_a, gNeX_a, eqX_i, eqX_b, eqX_s, eqX_n, eqX_ni, eqX_in, eqX_t, eqX_l, gIn_a, gNotIn_a, gInX_s, sgnIn_a, gInX_t, gInX_l, gIsN_a, gNotN_a, isNon_n, isNon_i, isNon_t, isNon_l, isNon_s, asStr_a, gJoin_l, gJoin_t, gSum_a, gAll_a, gMax2_a, gMin2_a, gAbs_a, gTup_l, gTup_t, gLst_l, gLst_t, gRev_t, gRev_l, gRev_s, lcW_a, isTy_ds, ↓mForD_a, ↓mDictEnum_a, ↓mListRng_a, dw_a, dwv_d, qtS_a, dictEnum_l, dictEnum_t, lsRng_a, gShr_a, gShl_a, Rs_ok, Rs_exn, atI_0, ixN_0, atI_1, ixN_1, atI_2, ixN_2, atI_3, ixN_3, atI_4, ixN_4, atI_5, ixN_5, atI_6, ixN_6, atI_7, ixN_7, atI_8, ixN_8, atI_9, ixN_9, atI_10, ixN_10, atI_11, ixN_11, atI_12, ixN_12, atI_13, ixN_13, atI_14, ixN_14, atI_15, ixN_15, atI_16, ixN_16, sq_nx, sq_ct, sq_bk, sq_rt, sq_ex, lp_nx, lp_ct, lp_bk, lp_rt, lp_ex, tn_s, rd_z, rd_s, hs_s, cl_s, ci_s, cj_s, bw_s, brw_a, br_z, br_l, ownL_a, ow_l, ag_s, op_s, asB_b, asI_i, stL_a, gN_a, gAdd_a, gSub_a, gXor_a, gAnd_a, gLt_a, gLe_a, gGt_a, gGe_a, gMul_a, gDiv_a, gMod_a, gPow_a, gNeg_a, gNot_a, gEq_a, gNe_a, eqS_i, eqS_b, eqS_s, eqS_n, eqS_ni, eqS_in, lenD_l, lenD_t, lenD_s, intD_i, intD_b, n1_a, lim_a, ixD_l, ixD_t, truth_n, truth_b, truth_i, truth_t, truth_l, isTy_ii, isTy_ib, isTy_in, isTy_is, isTy_it, isTy_il, isTy_bi, isTy_bb, isTy_ss, isTy_si, isTy_sb, isTy_sn, isTy_st, isTy_sl, isTy_tt, isTy_ti, isTy_tb, isTy_tn, isTy_ts, isTy_tl, isTy_ll, isTy_li, isTy_lb, isTy_ln, isTy_ls, isTy_lt, endsOf_r, endsOf_n, endsOf_e, endsIO_r, endsIO_n, endsIO_e, rng1_a, rng2_a, cond_true, cond_false, Bool.and_true, Bool.true_and, Bool.and_false, Bool.false_and, Bool.or_true, Bool.true_or, Bool.or_false, Bool.false_or, Bool.not_true, Bool.not_false, decide_true, decide_false, Bool.false_eq_true, Bool.true_eq_false, if_true, if_false, eq_self, List.getElem?_cons_zero, List.getElem?_cons_succ, List.set_cons_zero, List.set_cons_succ, List.length_cons, List.length_nil, List.length_set, List.map_cons, List.map_nil, List.replicate, List.append_nil, List.nil_append, List.cons_append, Option.bind_some, Option.bind_none, Option.map_some, Option.map_none, Nat.reduceAdd, Nat.reduceSub, Nat.reduceLT, Nat.reduceLeDiff, Nat.reduceEqDiff, ↓reduceIte, dat_len, r1, r2, d1, d3, t1, w, e, List.length_map, List.length_range, d2, blk]
end
/-! ### alike -/
def dis (L : List Int) : List D := L.map .int
theorem dis_len {L : List Int} : (dis L).length = L.length := by unfold dis; simp
theorem at_dis {L : List Int} {k : Nat} (h : k < L.length) : L2.atI (dis L) (k : Int) = some (.int L[k]) := by
  rw [atI_at (by omega) (by rw [dis_len]; omega)]
  unfold dis
  rw [List.getElem?_map, show (k : Int).toNat = k by omega, List.getElem?_eq_getElem h]
  rfl
theorem alike1 {self : Sem} {a : Int} : semF 2 3 (b__law_alike self) [.int a, .int a] = some (.ok (.bl true, .z)) := by
  simp only [semF, b__law_alike, mu0, ↓bnd_def, ↓giv_a, ↓opt_a, ↓mSeq_a, ↓mIf_a, ↓mB_a, ↓mT_a, ↓m1_a, ↓mN_a, ↓m2_a, ↓mCh_a, ↓mAnd_a, ↓mOr_a, ↓vAnd_a, ↓vOr_a, ↓vNot_a, ↓vB_t, ↓vB_f, ↓vB0_t, ↓vB0_f, ↓cond_t, ↓cond_f, ↓unO_a, ↓toO_a, ↓mCall_a, ↓has_a, ↓mCallIO_a, ↓aNil_a, ↓aCons_a, ↓rdv_a, ↓mIxB_a, ↓mLenB_a, ↓mStIx_a, ↓put_a, ↓mSet_a, ↓mSetO_a, ↓mAug_a, ↓mRet_a, ↓mRetO_a, ↓mDrop_a, ↓mRaise_a, ↓mLstO_a, ↓mPar_a, ↓mFor_a, ↓mRg_a, ↓mIt_a, ↓mAsg_a, ↓mLc_a, ↓mItA_a, ↓hasL_a, ↓mUp1_a, ↓mSl_a, ↓mPart_a, ↓mJoin_a, ↓mDispO_a, ↓mPairs_n, ↓mPairs_c, ↓mListO_a, ↓mRepL_a, wp_nil, wp_cons, lg_s, RsQ_ok, sole_a, enumF_a, itemsD_l, itemsD_t, itemsD_s, zipF_l, zipF_t, upL_a, fApp_a, asI2_i, gSl_l, gSl_t, gSl_s, gAddX_i, gAddX_s, gAddX_t, gAddX_l, gMulX_i, gMulX_s, gMulX_t, gRepL_a, ixX_l, ixX_t, ixX_s, ixD_s, gEqX_a, gNeX_a, eqX_i, eqX_b, eqX_s, eqX_n, eqX_ni, eqX_in, eqX_t, eqX_l, gIn_a, gNotIn_a, gInX_s, sgnIn_a, gInX_t, gInX_l, gIsN_a, gNotN_a, isNon_n, isNon_i, isNon_t, isNon_l, isNon_s, asStr_a, gJoin_l, gJoin_t, gSum_a, gAll_a, gMax2_a, gMin2_a, gAbs_a, gTup_l, gTup_t, gLst_l, gLst_t, gRev_t, gRev_l, gRev_s, lcW_a, isTy_ds, ↓mForD_a, ↓mDictEnum_a, ↓mListRng_a, dw_a, dwv_d, qtS_a, dictEnum_l, dictEnum_t, lsRng_a, gShr_a, gShl_a, Rs_ok, Rs_exn, atI_0, ixN_0, atI_1, ixN_1, atI_2, ixN_2, atI_3, ixN_3, atI_4, ixN_4, atI_5, ixN_5, atI_6, ixN_6, atI_7, ixN_7, atI_8, ixN_8, atI_9, ixN_9, atI_10, ixN_10, atI_11, ixN_11, atI_12, ixN_12, atI_13, ixN_13, atI_14, ixN_14, atI_15, ixN_15, atI_16, ixN_16, sq_nx, sq_ct, sq_bk, sq_rt, sq_ex, lp_nx, lp_ct, lp_bk, lp_rt, lp_ex, tn_s, rd_z, rd_s, hs_s, cl_s, ci_s, cj_s, bw_s, brw_a, br_z, br_l, ownL_a, ow_l, ag_s, op_s, asB_b, asI_i, stL_a, gN_a, gAdd_a, gSub_a, gXor_a, gAnd_a, gLt_a, gLe_a, gGt_a, gGe_a, gMul_a, gDiv_a, gMod_a, gPow_a, gNeg_a, gNot_a, gEq_a, gNe_a, eqS_i, eqS_b, eqS_s, eqS_n, eqS_ni, eqS_in, lenD_l, lenD_t, lenD_s, intD_i, intD_b, n1_a, lim_a, ixD_l, ixD_t, truth_n, truth_b, truth_i, truth_t, truth_l, isTy_ii, isTy_ib, isTy_in, isTy_is, isTy_it, isTy_il, isTy_bi, isTy_bb, isTy_ss, isTy_si, isTy_sb, isTy_sn, isTy_st, isTy_sl, isTy_tt, isTy_ti, isTy_tb, isTy_tn, isTy_ts, isTy_tl, isTy_ll, isTy_li, isTy_lb, isTy_ln, isTy_ls, isTy_lt, endsOf_r, endsOf_n, endsOf_e, endsIO_r, endsIO_n, endsIO_e, rng1_a, rng2_a, cond_true, cond_false, Bool.and_true, Bool.true_and, Bool.and_false, Bool.false_and, Bool.or_true, Bool.true_or, Bool.or_false, Bool.false_or, Bool.not_true, Bool.not_false, decide_true, decide_false, Bool.false_eq_true, Bool.true_eq_false, if_true, if_false, eq_self, List.getElem?_cons_zero, List.getElem?_cons_succ, List.set_cons_zero, List.set_cons_succ, List.length_cons, List.length_nil, List.length_set, List.map_cons, List.map_nil, List.replicate, List.append_nil, List.nil_append, List.cons_append, Option.bind_some, Option.bind_none, Option.map_some, Option.map_none, Nat.reduceAdd, Nat.reduceSub, Nat.reduceLT, Nat.reduceLeDiff, Nat.reduceEqDiff, ↓reduceIte]
theorem alike2 {self : Sem} (hs : ∀ a : Int, self [.int a, .int a] = some (.ok (.bl true, .z))) {L : List Int} (hl : L.length ≤ 1000) : semF 2 3 (b__law_alike self) [.tup (dis L), .tup (dis L)] = some (.ok (.bl true, .z)) := by
  have e := lc_flt (vs := [2]) (g := gN 2) (t := bnd (mT (unO (mCall self (aCons (mIxB 0 (rdv 2)) (aCons (mIxB 1 (rdv 2)) (aNil)))))) fun b => giv !b) (e := l__law_alike_0 self) (μ0 := [some (.tup (dis L), .z), some (.tup (dis L), .z), none]) (fun k : Nat => D.int (k : Int)) (fun k : Nat => D.int (k : Int)) (fun _ => false) (List.range L.length) fun k hk => by
    have a1 := at_dis (List.mem_range.mp hk)
    have h1 := hs (L[k]'(List.mem_range.mp hk))
    refine ⟨[some (.tup (dis L), .z), some (.tup (dis L), .z), some (.int (k : Int), .z)], rfl, ?_, ?_, rfl⟩
    · simp only [↓bnd_def, ↓giv_a, ↓opt_a, ↓mSeq_a, ↓mIf_a, ↓mB_a, ↓mT_a, ↓m1_a, ↓mN_a, ↓m2_a, ↓mCh_a, ↓mAnd_a, ↓mOr_a, ↓vAnd_a, ↓vOr_a, ↓vNot_a, ↓vB_t, ↓vB_f, ↓vB0_t, ↓vB0_f, ↓cond_t, ↓cond_f, ↓unO_a, ↓toO_a, ↓mCall_a, ↓has_a, ↓mCallIO_a, ↓aNil_a, ↓aCons_a, ↓rdv_a, ↓mIxB_a, ↓mLenB_a, ↓mStIx_a, ↓put_a, ↓mSet_a, ↓mSetO_a, ↓mAug_a, ↓mRet_a, ↓mRetO_a, ↓mDrop_a, ↓mRaise_a, ↓mLstO_a, ↓mPar_a, ↓mFor_a, ↓mRg_a, ↓mIt_a, ↓mAsg_a, ↓mLc_a, ↓mItA_a, ↓hasL_a, ↓mUp1_a, ↓mSl_a, ↓mPart_a, ↓mJoin_a, ↓mDispO_a, ↓mPairs_n, ↓mPairs_c, ↓mListO_a, ↓mRepL_a, wp_nil, wp_cons, lg_s, RsQ_ok, sole_a, enumF_a, itemsD_l, itemsD_t, itemsD_s, zipF_l, zipF_t, upL_a, fApp_a, asI2_i, gSl_l, gSl_t, gSl_s, gAddX_i, gAddX_s, gAddX_t, gAddX_l, gMulX_i, gMulX_s, gMulX_t, gRepL_a, ixX_l, ixX_t, ixX_s, ixD_s, gEqX_a, gNeX_a, eqX_i, eqX_b, eqX_s, eqX_n, eqX_ni, eqX_in, eqX_t, eqX_l, gIn_a, gNotIn_a, gInX_s, sgnIn_a, gInX_t, gInX_l, gIsN_a, gNotN_a, isNon_n, isNon_i, isNon_t, isNon_l, isNon_s, asStr_a, gJoin_l, gJoin_t, gSum_a, gAll_a, gMax2_a, gMin2_a, gAbs_a, gTup_l, gTup_t, gLst_l, gLst_t, gRev_t, gRev_l, gRev_s, lcW_a, isTy_ds, ↓mForD_a, ↓mDictEnum_a, ↓mListRng_a, dw_a, dwv_d, qtS_a, dictEnum_l, dictEnum_t, lsRng_a, gShr_a, gShl_a, Rs_ok, Rs_exn, atI_0, ixN_0, atI_1, ixN_1, atI_2, ixN_2, atI_3, ixN_3, atI_4, ixN_4, atI_5, ixN_5, atI_6, ixN_6, atI_7, ixN_7, atI_8, ixN_8, atI_9, ixN_9, atI_10, ixN_10, atI_11, ixN_11, atI_12, ixN_12, atI_13, ixN_13, atI_14, ixN_14, atI_15, ixN_15, atI_16, ixN_16, sq_nx, sq_ct, sq_bk, sq_rt, sq_ex, lp_nx, lp_ct, lp_bk, lp_rt, lp_ex, tn_s, rd_z, rd_s, hs_s, cl_s, ci_s, cj_s, bw_s, brw_a, br_z, br_l, ownL_a, ow_l, ag_s, op_s, asB_b, asI_i, stL_a, gN_a, gAdd_a, gSub_a, gXor_a, gAnd_a, gLt_a, gLe_a, gGt_a, gGe_a, gMul_a, gDiv_a, gMod_a, gPow_a, gNeg_a, gNot_a, gEq_a, gNe_a, eqS_i, eqS_b, eqS_s, eqS_n, eqS_ni, eqS_in, lenD_l, lenD_t, lenD_s, intD_i, intD_b, n1_a, lim_a, ixD_l, ixD_t, truth_n, truth_b, truth_i, truth_t, truth_l, isTy_ii, isTy_ib, isTy_in, isTy_is, isTy_it, isTy_il, isTy_bi, isTy_bb, isTy_ss, isTy_si, isTy_sb, isTy_sn, isTy_st, isTy_sl, isTy_tt, isTy_ti, isTy_tb, isTy_tn, isTy_ts, isTy_tl, isTy_ll, isTy_li, isTy_lb, isTy_ln, isTy_ls, isTy_lt, endsOf_r, endsOf_n, endsOf_e, endsIO_r, endsIO_n, endsIO_e, rng1_a, rng2_a, cond_true, cond_false, Bool.and_true, Bool.true_and, Bool.and_false, Bool.false_and, Bool.or_true, Bool.true_or, Bool.or_false, Bool.false_or, Bool.not_true, Bool.not_false, decide_true, decide_false, Bool.false_eq_true, Bool.true_eq_false, if_true, if_false, eq_self, List.getElem?_cons_zero, List.getElem?_cons_succ, List.set_cons_zero, List.set_cons_succ, List.length_cons, List.length_nil, List.length_set, List.map_cons, List.map_nil, List.replicate, List.append_nil, List.nil_append, List.cons_append, Option.bind_some, Option.bind_none, Option.map_some, Option.map_none, Nat.reduceAdd, Nat.reduceSub, Nat.reduceLT, Nat.reduceLeDiff, Nat.reduceEqDiff, ↓reduceIte, a1, h1]
    · simp only [l__law_alike_0, ↓bnd_def, ↓giv_a, ↓opt_a, ↓mSeq_a, ↓mIf_a, ↓mB_a, ↓mT_a, ↓m1_a, ↓mN_a, ↓m2_a, ↓mCh_a, ↓mAnd_a, ↓mOr_a, ↓vAnd_a, ↓vOr_a, ↓vNot_a, ↓vB_t, ↓vB_f, ↓vB0_t, ↓vB0_f, ↓cond_t, ↓cond_f, ↓unO_a, ↓toO_a, ↓mCall_a, ↓has_a, ↓mCallIO_a, ↓aNil_a, ↓aCons_a, ↓rdv_a, ↓mIxB_a, ↓mLenB_a, ↓mStIx_a, ↓put_a, ↓mSet_a, ↓mSetO_a, ↓mAug_a, ↓mRet_a, ↓mRetO_a, ↓mDrop_a, ↓mRaise_a, ↓mLstO_a, ↓mPar_a, ↓mFor_a, ↓mRg_a, ↓mIt_a, ↓mAsg_a, ↓mLc_a, ↓mItA_a, ↓hasL_a, ↓mUp1_a, ↓mSl_a, ↓mPart_a, ↓mJoin_a, ↓mDispO_a, ↓mPairs_n, ↓mPairs_c, ↓mListO_a, ↓mRepL_a, wp_nil, wp_cons, lg_s, RsQ_ok, sole_a, enumF_a, itemsD_l, itemsD_t, itemsD_s, zipF_l, zipF_t, upL_a, fApp_a, asI2_i, gSl_l, gSl_t, gSl_s, gAddX_i, gAddX_s, gAddX_t, gAddX_l, gMulX_i, gMulX_s, gMulX_t, gRepL_a, ixX_l, ixX_t, ixX_s, ixD_s, gEqX_a, gNeX_a, eqX_i, eqX_b, eqX_s, eqX_n, eqX_ni, eqX_in, eqX_t, eqX_l, gIn_a, gNotIn_a, gInX_s, sgnIn_a, gInX_t, gInX_l, gIsN_a, gNotN_a, isNon_n, isNon_i, isNon_t, isNon_l, isNon_s, asStr_a, gJoin_l, gJoin_t, gSum_a, gAll_a, gMax2_a, gMin2_a, gAbs_a, gTup_l, gTup_t, gLst_l, gLst_t, gRev_t, gRev_l, gRev_s, lcW_a, isTy_ds, ↓mForD_a, ↓mDictEnum_a, ↓mListRng_a, dw_a, dwv_d, qtS_a, dictEnum_l, dictEnum_t, lsRng_a, gShr_a, gShl_a, Rs_ok, Rs_exn, atI_0, ixN_0, atI_1, ixN_1, atI_2, ixN_2, atI_3, ixN_3, atI_4, ixN_4, atI_5, ixN_5, atI_6, ixN_6, atI_7, ixN_7, atI_8, ixN_8, atI_9, ixN_9, atI_10, ixN_10, atI_11, ixN_11, atI_12, ixN_12, atI_13, ixN_13, atI_14, ixN_14, atI_15, ixN_15, atI_16, ixN_16, sq_nx, sq_ct, sq_bk, sq_rt, sq_ex, lp_nx, lp_ct, lp_bk, lp_rt, lp_ex, tn_s, rd_z, rd_s, hs_s, cl_s, ci_s, cj_s, bw_s, brw_a, br_z, br_l, ownL_a, ow_l, ag_s, op_s, asB_b, asI_i, stL_a, gN_a, gAdd_a, gSub_a, gXor_a, gAnd_a, gLt_a, gLe_a, gGt_a, gGe_a, gMul_a, gDiv_a, gMod_a, gPow_a, gNeg_a, gNot_a, gEq_a, gNe_a, eqS_i, eqS_b, eqS_s, eqS_n, eqS_ni, eqS_in, lenD_l, lenD_t, lenD_s, intD_i, intD_b, n1_a, lim_a, ixD_l, ixD_t, truth_n, truth_b, truth_i, truth_t, truth_l, isTy_ii, isTy_ib, isTy_in, isTy_is, isTy_it, isTy_il, isTy_bi, isTy_bb, isTy_ss, isTy_si, isTy_sb, isTy_sn, isTy_st, isTy_sl, isTy_tt, isTy_ti, isTy_tb, isTy_tn, isTy_ts, isTy_tl, isTy_ll, isTy_li, isTy_lb, isTy_ln, isTy_ls, isTy_lt, endsOf_r, endsOf_n, endsOf_e, endsIO_r, endsIO_n, endsIO_e, rng1_a, rng2_a, cond_true, cond_false, Bool.and_true, Bool.true_and, Bool.and_false, Bool.false_and, Bool.or_true, Bool.true_or, Bool.or_false, Bool.false_or, Bool.not_true, Bool.not_false, decide_true, decide_false, Bool.false_eq_true, Bool.true_eq_false, if_true, if_false, eq_self, List.getElem?_cons_zero, List.getElem?_cons_succ, List.set_cons_zero, List.set_cons_succ, List.length_cons, List.length_nil, List.length_set, List.map_cons, List.map_nil, List.replicate, List.append_nil, List.nil_append, List.cons_append, Option.bind_some, Option.bind_none, Option.map_some, Option.map_none, Nat.reduceAdd, Nat.reduceSub, Nat.reduceLT, Nat.reduceLeDiff, Nat.reduceEqDiff, ↓reduceIte]
  have ef : ∀ l : List Nat, l.filter (fun _ => false) = [] := fun l => by simp
  rw [← range0, ef] at e
  have r1 : inR (L.length : Int) = true := inR_of (by omega) (by omega)
  have d1 : decide ((rangeD 0 (L.length : Int)).length ≤ 16777216) = true := decide_eq_true (by rw [range0]; simp; omega)
  have w : wp [2] [some (D.tup (dis L), Kd.z), some (.tup (dis L), .z), none] = [some (D.tup (dis L), Kd.z), some (.tup (dis L), .z), none] := rfl
  have k1 : okD 8 (.lst []) = true := by decide
  have k2 : deq (.lst []) (.lst []) = true := by decide
  simp only [semF, b__law_alike, mu0, ↓bnd_def, ↓giv_a, ↓opt_a, ↓mSeq_a, ↓mIf_a, ↓mB_a, ↓mT_a, ↓m1_a, ↓mN_a, ↓m2_a, ↓mCh_a, ↓mAnd_a, ↓mOr_a, ↓vAnd_a, ↓vOr_a, ↓vNot_a, ↓vB_t, ↓vB_f, ↓vB0_t, ↓vB0_f, ↓cond_t, ↓cond_f, ↓unO_a, ↓toO_a, ↓mCall_a, ↓has_a, ↓mCallIO_a, ↓aNil_a, ↓aCons_a, ↓rdv_a, ↓mIxB_a, ↓mLenB_a, ↓mStIx_a, ↓put_a, ↓mSet_a, ↓mSetO_a, ↓mAug_a, ↓mRet_a, ↓mRetO_a, ↓mDrop_a, ↓mRaise_a, ↓mLstO_a, ↓mPar_a, ↓mFor_a, ↓mRg_a, ↓mIt_a, ↓mAsg_a, ↓mLc_a, ↓mItA_a, ↓hasL_a, ↓mUp1_a, ↓mSl_a, ↓mPart_a, ↓mJoin_a, ↓mDispO_a, ↓mPairs_n, ↓mPairs_c, ↓mListO_a, ↓mRepL_a, wp_nil, wp_cons, lg_s, RsQ_ok, sole_a, enumF_a, itemsD_l, itemsD_t, itemsD_s, zipF_l, zipF_t, upL_a, fApp_a, asI2_i, gSl_l, gSl_t, gSl_s, gAddX_i, gAddX_s, gAddX_t, gAddX_l, gMulX_i, gMulX_s, gMulX_t, gRepL_a, ixX_l, ixX_t, ixX_s, ixD_s, gEqX_a, gNeX_a, eqX_i, eqX_b, eqX_s, eqX_n, eqX_ni, eqX_in, eqX_t, eqX_l, gIn_a, gNotIn_a, gInX_s, sgnIn_a, gInX_t, gInX_l, gIsN_a, gNotN_a, isNon_n, isNon_i, isNon_t, isNon_l, isNon_s, asStr_a, gJoin_l, gJoin_t, gSum_a, gAll_a, gMax2_a, gMin2_a, gAbs_a, gTup_l, gTup_t, gLst_l, gLst_t, gRev_t, gRev_l, gRev_s, lcW_a, isTy_ds, ↓mForD_a, ↓mDictEnum_a, ↓mListRng_a, dw_a, dwv_d, qtS_a, dictEnum_l, dictEnum_t, lsRng_a, gShr_a, gShl_a, Rs_ok, Rs_exn, atI_0, ixN_0, atI_1, ixN_1, atI_2, ixN_2, atI_3, ixN_3, atI_4, ixN_4, atI_5, ixN_5, atI_6, ixN_6, atI_7, ixN_7, atI_8, ixN_8, atI_9, ixN_9, atI_10, ixN_10, atI_11, ixN_11, atI_12, ixN_12, atI_13, ixN_13, atI_14, ixN_14, atI_15, ixN_15, atI_16, ixN_16, sq_nx, sq_ct, sq_bk, sq_rt, sq_ex, lp_nx, lp_ct, lp_bk, lp_rt, lp_ex, tn_s, rd_z, rd_s, hs_s, cl_s, ci_s, cj_s, bw_s, brw_a, br_z, br_l, ownL_a, ow_l, ag_s, op_s, asB_b, asI_i, stL_a, gN_a, gAdd_a, gSub_a, gXor_a, gAnd_a, gLt_a, gLe_a, gGt_a, gGe_a, gMul_a, gDiv_a, gMod_a, gPow_a, gNeg_a, gNot_a, gEq_a, gNe_a, eqS_i, eqS_b, eqS_s, eqS_n, eqS_ni, eqS_in, lenD_l, lenD_t, lenD_s, intD_i, intD_b, n1_a, lim_a, ixD_l, ixD_t, truth_n, truth_b, truth_i, truth_t, truth_l, isTy_ii, isTy_ib, isTy_in, isTy_is, isTy_it, isTy_il, isTy_bi, isTy_bb, isTy_ss, isTy_si, isTy_sb, isTy_sn, isTy_st, isTy_sl, isTy_tt, isTy_ti, isTy_tb, isTy_tn, isTy_ts, isTy_tl, isTy_ll, isTy_li, isTy_lb, isTy_ln, isTy_ls, isTy_lt, endsOf_r, endsOf_n, endsOf_e, endsIO_r, endsIO_n, endsIO_e, rng1_a, rng2_a, cond_true, cond_false, Bool.and_true, Bool.true_and, Bool.and_false, Bool.false_and, Bool.or_true, Bool.true_or, Bool.or_false, Bool.false_or, Bool.not_true, Bool.not_false, decide_true, decide_false, Bool.false_eq_true, Bool.true_eq_false, if_true, if_false, eq_self, List.getElem?_cons_zero, List.getElem?_cons_succ, List.set_cons_zero, List.set_cons_succ, List.length_cons, List.length_nil, List.length_set, List.map_cons, List.map_nil, List.replicate, List.append_nil, List.nil_append, List.cons_append, Option.bind_some, Option.bind_none, Option.map_some, Option.map_none, Nat.reduceAdd, Nat.reduceSub, Nat.reduceLT, Nat.reduceLeDiff, Nat.reduceEqDiff, ↓reduceIte, dis_len, r1, d1, w, e, k1, k2]
theorem alike {L : List Int} (hl : L.length ≤ 1000) : f__law_alike [.tup (dis L), .tup (dis L)] = some (.ok (.bl true, .z)) :=
  alike2 (self := recF 2 3 b__law_alike 5) (fun _ => alike1 (self := recF 2 3 b__law_alike 4)) hl
theorem blk_dis {n : Nat} {m : Nat → Nat} {c : Nat} : ∃ L : List Int, blk n m c = dis L ∧ L.length = n + c :=
  ⟨((List.range n).map fun i => (m i : Int)) ++ (List.range c).map fun t => ((itp (n + t) n m : Nat) : Int), by unfold blk dat dis; rw [List.map_append, List.map_map, List.map_map]; rfl, by simp⟩
end G
end
section
namespace G
open Mn
theorem dat_of (xs : List D) (h : ∀ x ∈ xs, ∃ v : Nat, v < 16 ∧ x = .int (v : Int)) : ∃ m : Nat → Nat, xs = dat xs.length m ∧ ∀ i, i < xs.length → m i < 16 := by
  refine ⟨fun i => match xs[i]? with | some (.int z) => z.toNat | _ => 0, ?_, fun i hi => ?_⟩
  · apply List.ext_getElem?
    intro i
    by_cases hi : i < xs.length
    · obtain ⟨v, _, e⟩ := h _ (List.getElem_mem hi)
      unfold dat
      rw [List.getElem?_map, List.getElem?_range hi, List.getElem?_eq_getElem hi, e]
      show some (D.int (v : Int)) = some (D.int (((match xs[i]? with | some (.int z) => z.toNat | _ => 0) : Nat) : Int))
      rw [List.getElem?_eq_getElem hi, e]
      rfl
    · rw [List.getElem?_eq_none (by omega), List.getElem?_eq_none (by rw [dat_len]; omega)]
  · obtain ⟨v, hv, e⟩ := h _ (List.getElem_mem hi)
    show (match xs[i]? with | some (.int z) => z.toNat | _ => 0) < 16
    rw [List.getElem?_eq_getElem hi, e]
    exact hv
theorem drawn_data {xs : List Int} {p s c : Int} (h0 : 0 ≤ p) : ∃ (n k : Nat) (m : Nat → Nat) (p' s' c' : Int), 1 ≤ n ∧ n + k ≤ 16 ∧ (∀ i, i < n → m i < 16) ∧ 0 ≤ p' ∧
    f__law_data (row xs p s c) [.int 14] = some (.ok (.tup [.tup (dat n m), .int (k : Int)], .z), row xs p' s' c') := by
  obtain ⟨t1, p1, s1, c1, a1, b1, e1⟩ := drawn xs p s c (many := 14) h0 (by omega) (by omega)
  obtain ⟨t2, p2, s2, c2, a2, b2, e2⟩ := drawn xs p1 s1 c1 (many := 2) b1 (by omega) (by omega)
  have hv : ∃ v : Nat, L2.atI [D.int 8, .int 13] (t2 : Int) = some (.int (v : Int)) ∧ 8 ≤ v ∧ v ≤ 13 := by
    have : t2 = 0 ∨ t2 = 1 := by omega
    rcases this with z | z <;> subst z
    · exact ⟨8, rfl, by omega, by omega⟩
    · exact ⟨13, rfl, by omega, by omega⟩
  obtain ⟨v, ev, v1, v2⟩ := hv
  have hw : ∃ w : Nat, (if 17 - (1 + (t1 : Int)) < (v : Int) then 17 - (1 + (t1 : Int)) else (v : Int)) = (w : Int) ∧ 1 ≤ w ∧ w ≤ 16 - t1 ∧ w ≤ 13 := by
    by_cases z : 17 - (1 + (t1 : Int)) < (v : Int)
    · exact ⟨16 - t1, by rw [if_pos z]; omega, by omega, by omega, by omega⟩
    · exact ⟨v, by rw [if_neg z], by omega, by omega, by omega⟩
  obtain ⟨w, ew, w1, w2, w3⟩ := hw
  obtain ⟨k, p3, s3, c3, a3, b3, e3⟩ := drawn xs p2 s2 c2 (many := w) b2 (by omega) (by omega)
  obtain ⟨t4, p4, s4, c4, a4, b4, e4⟩ := drawn xs p3 s3 c3 (many := 3) b3 (by omega) (by omega)
  have hq : ∃ q : Nat, L2.atI [D.int 2, .int 16, .int 16] (t4 : Int) = some (.int (q : Int)) ∧ 0 < q ∧ q ≤ 16 := by
    have : t4 = 0 ∨ t4 = 1 ∨ t4 = 2 := by omega
    rcases this with z | z | z <;> subst z
    · exact ⟨2, rfl, by omega, by omega⟩
    · exact ⟨16, rfl, by omega, by omega⟩
    · exact ⟨16, rfl, by omega, by omega⟩
  obtain ⟨q, eq, q1, q2⟩ := hq
  have e1' : f__law_taken (row xs p s c) [.int 14] = _ := e1
  have e2' : f__law_taken (row xs p1 s1 c1) [.int 2] = _ := e2
  have e4' : f__law_taken (row xs p3 s3 c3) [.int 3] = _ := e4
  obtain ⟨ys, μ', ec, ⟨p5, s5, c5, b5, rfl⟩, el, ey⟩ := lc_inv (vs := [5]) (g := gN 5) (e := l__law_data_0) (I := fun μ => ∃ p s c, 0 ≤ p ∧ μ = [some (row xs p s c), some (.int 14, .z), some (.int (1 + (t1 : Int)), .z), some (.int (k : Int), .z), some (.int (q : Int), .z), none]) (P := fun x => ∃ v : Nat, v < 16 ∧ x = .int (v : Int))
    (rangeD 0 ((1 + t1 : Nat) : Int)) [some (row xs p4 s4 c4), some (.int 14, .z), some (.int (1 + (t1 : Int)), .z), some (.int (k : Int), .z), some (.int (q : Int), .z), none] ⟨_, _, _, b4, rfl⟩ fun μ d h hd => by
      obtain ⟨p, s, c, hp, rfl⟩ := h
      obtain ⟨r, p', s', c', r1, hp', e⟩ := drawn xs p s c (many := q) hp q1 (by omega)
      refine ⟨_, rfl, .int (r : Int), [some (row xs p' s' c'), some (.int 14, .z), some (.int (1 + (t1 : Int)), .z), some (.int (k : Int), .z), some (.int (q : Int), .z), some (d, .z)], ?_, ⟨r, by omega, rfl⟩, ⟨_, _, _, hp', rfl⟩⟩
      simp only [l__law_data_0, ↓bnd_def, ↓giv_a, ↓opt_a, ↓mSeq_a, ↓mIf_a, ↓mB_a, ↓mT_a, ↓m1_a, ↓mN_a, ↓m2_a, ↓mCh_a, ↓mAnd_a, ↓mOr_a, ↓vAnd_a, ↓vOr_a, ↓vNot_a, ↓vB_t, ↓vB_f, ↓vB0_t, ↓vB0_f, ↓cond_t, ↓cond_f, ↓unO_a, ↓toO_a, ↓mCall_a, ↓has_a, ↓mCallIO_a, ↓aNil_a, ↓aCons_a, ↓rdv_a, ↓mIxB_a, ↓mLenB_a, ↓mStIx_a, ↓put_a, ↓mSet_a, ↓mSetO_a, ↓mAug_a, ↓mRet_a, ↓mRetO_a, ↓mDrop_a, ↓mRaise_a, ↓mLstO_a, ↓mPar_a, ↓mFor_a, ↓mRg_a, ↓mIt_a, ↓mAsg_a, ↓mLc_a, ↓mItA_a, ↓hasL_a, ↓mUp1_a, ↓mSl_a, ↓mPart_a, ↓mJoin_a, ↓mDispO_a, ↓mPairs_n, ↓mPairs_c, ↓mListO_a, ↓mRepL_a, wp_nil, wp_cons, lg_s, RsQ_ok, sole_a, enumF_a, itemsD_l, itemsD_t, itemsD_s, zipF_l, zipF_t, upL_a, fApp_a, asI2_i, gSl_l, gSl_t, gSl_s, gAddX_i, gAddX_s, gAddX_t, gAddX_l, gMulX_i, gMulX_s, gMulX_t, gRepL_a, ixX_l, ixX_t, ixX_s, ixD_s, gEqX_a, gNeX_a, eqX_i, eqX_b, eqX_s, eqX_n, eqX_ni, eqX_in, eqX_t, eqX_l, gIn_a, gNotIn_a, gInX_s, sgnIn_a, gInX_t, gInX_l, gIsN_a, gNotN_a, isNon_n, isNon_i, isNon_t, isNon_l, isNon_s, asStr_a, gJoin_l, gJoin_t, gSum_a, gAll_a, gMax2_a, gMin2_a, gAbs_a, gTup_l, gTup_t, gLst_l, gLst_t, gRev_t, gRev_l, gRev_s, lcW_a, isTy_ds, ↓mForD_a, ↓mDictEnum_a, ↓mListRng_a, dw_a, dwv_d, qtS_a, dictEnum_l, dictEnum_t, lsRng_a, gShr_a, gShl_a, Rs_ok, Rs_exn, atI_0, ixN_0, atI_1, ixN_1, atI_2, ixN_2, atI_3, ixN_3, atI_4, ixN_4, atI_5, ixN_5, atI_6, ixN_6, atI_7, ixN_7, atI_8, ixN_8, atI_9, ixN_9, atI_10, ixN_10, atI_11, ixN_11, atI_12, ixN_12, atI_13, ixN_13, atI_14, ixN_14, atI_15, ixN_15, atI_16, ixN_16, sq_nx, sq_ct, sq_bk, sq_rt, sq_ex, lp_nx, lp_ct, lp_bk, lp_rt, lp_ex, tn_s, rd_z, rd_s, hs_s, cl_s, ci_s, cj_s, bw_s, brw_a, br_z, br_l, ownL_a, ow_l, ag_s, op_s, asB_b, asI_i, stL_a, gN_a, gAdd_a, gSub_a, gXor_a, gAnd_a, gLt_a, gLe_a, gGt_a, gGe_a, gMul_a, gDiv_a, gMod_a, gPow_a, gNeg_a, gNot_a, gEq_a, gNe_a, eqS_i, eqS_b, eqS_s, eqS_n, eqS_ni, eqS_in, lenD_l, lenD_t, lenD_s, intD_i, intD_b, n1_a, lim_a, ixD_l, ixD_t, truth_n, truth_b, truth_i, truth_t, truth_l, isTy_ii, isTy_ib, isTy_in, isTy_is, isTy_it, isTy_il, isTy_bi, isTy_bb, isTy_ss, isTy_si, isTy_sb, isTy_sn, isTy_st, isTy_sl, isTy_tt, isTy_ti, isTy_tb, isTy_tn, isTy_ts, isTy_tl, isTy_ll, isTy_li, isTy_lb, isTy_ln, isTy_ls, isTy_lt, endsOf_r, endsOf_n, endsOf_e, endsIO_r, endsIO_n, endsIO_e, rng1_a, rng2_a, cond_true, cond_false, Bool.and_true, Bool.true_and, Bool.and_false, Bool.false_and, Bool.or_true, Bool.true_or, Bool.or_false, Bool.false_or, Bool.not_true, Bool.not_false, decide_true, decide_false, Bool.false_eq_true, Bool.true_eq_false, if_true, if_false, eq_self, List.getElem?_cons_zero, List.getElem?_cons_succ, List.set_cons_zero, List.set_cons_succ, List.length_cons, List.length_nil, List.length_set, List.map_cons, List.map_nil, List.replicate, List.append_nil, List.nil_append, List.cons_append, Option.bind_some, Option.bind_none, Option.map_some, Option.map_none, Nat.reduceAdd, Nat.reduceSub, Nat.reduceLT, Nat.reduceLeDiff, Nat.reduceEqDiff, ↓reduceIte, e]
  have lr : (rangeD 0 ((1 + t1 : Nat) : Int)).length = 1 + t1 := by rw [range0]; simp
  rw [lr] at el
  obtain ⟨m, em, hm⟩ := dat_of ys ey
  rw [el] at em hm
  subst em
  have ei : ((1 + t1 : Nat) : Int) = 1 + (t1 : Int) := by omega
  rw [ei] at ec lr
  refine ⟨1 + t1, k, m, p5, s5, c5, by omega, by omega, hm, b5, ?_⟩
  have r1 : inR (1 + (t1 : Int)) = true := inR_of (by omega) (by omega)
  have d1 : decide ((rangeD 0 (1 + (t1 : Int))).length ≤ 16777216) = true := decide_eq_true (by rw [lr]; omega)
  have d2 : decide (1 + t1 ≤ 16777216) = true := decide_eq_true (by omega)
  have w0 : wp [5] [some (row xs p4 s4 c4), some (D.int 14, Kd.z), some (.int (1 + (t1 : Int)), .z), some (.int (k : Int), .z), some (.int (q : Int), .z), none] = [some (row xs p4 s4 c4), some (D.int 14, Kd.z), some (.int (1 + (t1 : Int)), .z), some (.int (k : Int), .z), some (.int (q : Int), .z), none] := rfl
  have w1 : wp [5] [some (row xs p5 s5 c5), some (D.int 14, Kd.z), some (.int (1 + (t1 : Int)), .z), some (.int (k : Int), .z), some (.int (q : Int), .z), none] = [some (row xs p5 s5 c5), some (D.int 14, Kd.z), some (.int (1 + (t1 : Int)), .z), some (.int (k : Int), .z), some (.int (q : Int), .z), none] := rfl
  simp only [f__law_data, semIO, b__law_data, mu0, ↓bnd_def, ↓giv_a, ↓opt_a, ↓mSeq_a, ↓mIf_a, ↓mB_a, ↓mT_a, ↓m1_a, ↓mN_a, ↓m2_a, ↓mCh_a, ↓mAnd_a, ↓mOr_a, ↓vAnd_a, ↓vOr_a, ↓vNot_a, ↓vB_t, ↓vB_f, ↓vB0_t, ↓vB0_f, ↓cond_t, ↓cond_f, ↓unO_a, ↓toO_a, ↓mCall_a, ↓has_a, ↓mCallIO_a, ↓aNil_a, ↓aCons_a, ↓rdv_a, ↓mIxB_a, ↓mLenB_a, ↓mStIx_a, ↓put_a, ↓mSet_a, ↓mSetO_a, ↓mAug_a, ↓mRet_a, ↓mRetO_a, ↓mDrop_a, ↓mRaise_a, ↓mLstO_a, ↓mPar_a, ↓mFor_a, ↓mRg_a, ↓mIt_a, ↓mAsg_a, ↓mLc_a, ↓mItA_a, ↓hasL_a, ↓mUp1_a, ↓mSl_a, ↓mPart_a, ↓mJoin_a, ↓mDispO_a, ↓mPairs_n, ↓mPairs_c, ↓mListO_a, ↓mRepL_a, wp_nil, wp_cons, lg_s, RsQ_ok, sole_a, enumF_a, itemsD_l, itemsD_t, itemsD_s, zipF_l, zipF_t, upL_a, fApp_a, asI2_i, gSl_l, gSl_t, gSl_s, gAddX_i, gAddX_s, gAddX_t, gAddX_l, gMulX_i, gMulX_s, gMulX_t, gRepL_a, ixX_l, ixX_t, ixX_s, ixD_s, gEqX_a, gNeX_a, eqX_i, eqX_b, eqX_s, eqX_n, eqX_ni, eqX_in, eqX_t, eqX_l, gIn_a, gNotIn_a, gInX_s, sgnIn_a, gInX_t, gInX_l, gIsN_a, gNotN_a, isNon_n, isNon_i, isNon_t, isNon_l, isNon_s, asStr_a, gJoin_l, gJoin_t, gSum_a, gAll_a, gMax2_a, gMin2_a, gAbs_a, gTup_l, gTup_t, gLst_l, gLst_t, gRev_t, gRev_l, gRev_s, lcW_a, isTy_ds, ↓mForD_a, ↓mDictEnum_a, ↓mListRng_a, dw_a, dwv_d, qtS_a, dictEnum_l, dictEnum_t, lsRng_a, gShr_a, gShl_a, Rs_ok, Rs_exn, atI_0, ixN_0, atI_1, ixN_1, atI_2, ixN_2, atI_3, ixN_3, atI_4, ixN_4, atI_5, ixN_5, atI_6, ixN_6, atI_7, ixN_7, atI_8, ixN_8, atI_9, ixN_9, atI_10, ixN_10, atI_11, ixN_11, atI_12, ixN_12, atI_13, ixN_13, atI_14, ixN_14, atI_15, ixN_15, atI_16, ixN_16, sq_nx, sq_ct, sq_bk, sq_rt, sq_ex, lp_nx, lp_ct, lp_bk, lp_rt, lp_ex, tn_s, rd_z, rd_s, hs_s, cl_s, ci_s, cj_s, bw_s, brw_a, br_z, br_l, ownL_a, ow_l, ag_s, op_s, asB_b, asI_i, stL_a, gN_a, gAdd_a, gSub_a, gXor_a, gAnd_a, gLt_a, gLe_a, gGt_a, gGe_a, gMul_a, gDiv_a, gMod_a, gPow_a, gNeg_a, gNot_a, gEq_a, gNe_a, eqS_i, eqS_b, eqS_s, eqS_n, eqS_ni, eqS_in, lenD_l, lenD_t, lenD_s, intD_i, intD_b, n1_a, lim_a, ixD_l, ixD_t, truth_n, truth_b, truth_i, truth_t, truth_l, isTy_ii, isTy_ib, isTy_in, isTy_is, isTy_it, isTy_il, isTy_bi, isTy_bb, isTy_ss, isTy_si, isTy_sb, isTy_sn, isTy_st, isTy_sl, isTy_tt, isTy_ti, isTy_tb, isTy_tn, isTy_ts, isTy_tl, isTy_ll, isTy_li, isTy_lb, isTy_ln, isTy_ls, isTy_lt, endsOf_r, endsOf_n, endsOf_e, endsIO_r, endsIO_n, endsIO_e, rng1_a, rng2_a, cond_true, cond_false, Bool.and_true, Bool.true_and, Bool.and_false, Bool.false_and, Bool.or_true, Bool.true_or, Bool.or_false, Bool.false_or, Bool.not_true, Bool.not_false, decide_true, decide_false, Bool.false_eq_true, Bool.true_eq_false, if_true, if_false, eq_self, List.getElem?_cons_zero, List.getElem?_cons_succ, List.set_cons_zero, List.set_cons_succ, List.length_cons, List.length_nil, List.length_set, List.map_cons, List.map_nil, List.replicate, List.append_nil, List.nil_append, List.cons_append, Option.bind_some, Option.bind_none, Option.map_some, Option.map_none, Nat.reduceAdd, Nat.reduceSub, Nat.reduceLT, Nat.reduceLeDiff, Nat.reduceEqDiff, ↓reduceIte, e1', e2', ev, ew, e3, e4', eq, r1, lr, d1, d2, w0, w1, ec]
end G

namespace G
open Mn
theorem drawn16 {xs : List Int} {p s c : Int} (h0 : 0 ≤ p) {x2 x3 x4 x5 x6 : Option (D × Kd)} : ∃ (m : Nat → Nat) (μ' : M), (∀ i, i < 16 → m i < 16) ∧ (∃ p' s' c', μ' = [some (.lst (xs.map .int), .z), some (row xs p' s' c'), x2, x3, x4, x5, x6, none]) ∧
    lcT [7] (gN 7) (giv true) l_law_2 (rangeD 0 16) [some (.lst (xs.map .int), .z), some (row xs p s c), x2, x3, x4, x5, x6, none] = some (.ok (dat 16 m), μ') := by
  obtain ⟨ys, μ', ec, ⟨p5, s5, c5, b5, rfl⟩, el, ey⟩ := lc_inv (vs := [7]) (g := gN 7) (e := l_law_2) (I := fun μ => ∃ p s c, 0 ≤ p ∧ μ = [some (.lst (xs.map .int), .z), some (row xs p s c), x2, x3, x4, x5, x6, none]) (P := fun x => ∃ v : Nat, v < 16 ∧ x = .int (v : Int))
    (rangeD 0 16) [some (.lst (xs.map .int), .z), some (row xs p s c), x2, x3, x4, x5, x6, none] ⟨_, _, _, h0, rfl⟩ fun μ d h hd => by
      obtain ⟨p, s, c, hp, rfl⟩ := h
      obtain ⟨r, p', s', c', r1, hp', e⟩ := drawn xs p s c (many := 16) hp (by omega) (by omega)
      have e' : f__law_taken (row xs p s c) [.int 16] = _ := e
      refine ⟨_, rfl, .int (r : Int), [some (.lst (xs.map .int), .z), some (row xs p' s' c'), x2, x3, x4, x5, x6, some (d, .z)], ?_, ⟨r, by omega, rfl⟩, ⟨_, _, _, hp', rfl⟩⟩
      simp only [l_law_2, ↓bnd_def, ↓giv_a, ↓opt_a, ↓mSeq_a, ↓mIf_a, ↓mB_a, ↓mT_a, ↓m1_a, ↓mN_a, ↓m2_a, ↓mCh_a, ↓mAnd_a, ↓mOr_a, ↓vAnd_a, ↓vOr_a, ↓vNot_a, ↓vB_t, ↓vB_f, ↓vB0_t, ↓vB0_f, ↓cond_t, ↓cond_f, ↓unO_a, ↓toO_a, ↓mCall_a, ↓has_a, ↓mCallIO_a, ↓aNil_a, ↓aCons_a, ↓rdv_a, ↓mIxB_a, ↓mLenB_a, ↓mStIx_a, ↓put_a, ↓mSet_a, ↓mSetO_a, ↓mAug_a, ↓mRet_a, ↓mRetO_a, ↓mDrop_a, ↓mRaise_a, ↓mLstO_a, ↓mPar_a, ↓mFor_a, ↓mRg_a, ↓mIt_a, ↓mAsg_a, ↓mLc_a, ↓mItA_a, ↓hasL_a, ↓mUp1_a, ↓mSl_a, ↓mPart_a, ↓mJoin_a, ↓mDispO_a, ↓mPairs_n, ↓mPairs_c, ↓mListO_a, ↓mRepL_a, wp_nil, wp_cons, lg_s, RsQ_ok, sole_a, enumF_a, itemsD_l, itemsD_t, itemsD_s, zipF_l, zipF_t, upL_a, fApp_a, asI2_i, gSl_l, gSl_t, gSl_s, gAddX_i, gAddX_s, gAddX_t, gAddX_l, gMulX_i, gMulX_s, gMulX_t, gRepL_a, ixX_l, ixX_t, ixX_s, ixD_s, gEqX_a, gNeX_a, eqX_i, eqX_b, eqX_s, eqX_n, eqX_ni, eqX_in, eqX_t, eqX_l, gIn_a, gNotIn_a, gInX_s, sgnIn_a, gInX_t, gInX_l, gIsN_a, gNotN_a, isNon_n, isNon_i, isNon_t, isNon_l, isNon_s, asStr_a, gJoin_l, gJoin_t, gSum_a, gAll_a, gMax2_a, gMin2_a, gAbs_a, gTup_l, gTup_t, gLst_l, gLst_t, gRev_t, gRev_l, gRev_s, lcW_a, isTy_ds, ↓mForD_a, ↓mDictEnum_a, ↓mListRng_a, dw_a, dwv_d, qtS_a, dictEnum_l, dictEnum_t, lsRng_a, gShr_a, gShl_a, Rs_ok, Rs_exn, atI_0, ixN_0, atI_1, ixN_1, atI_2, ixN_2, atI_3, ixN_3, atI_4, ixN_4, atI_5, ixN_5, atI_6, ixN_6, atI_7, ixN_7, atI_8, ixN_8, atI_9, ixN_9, atI_10, ixN_10, atI_11, ixN_11, atI_12, ixN_12, atI_13, ixN_13, atI_14, ixN_14, atI_15, ixN_15, atI_16, ixN_16, sq_nx, sq_ct, sq_bk, sq_rt, sq_ex, lp_nx, lp_ct, lp_bk, lp_rt, lp_ex, tn_s, rd_z, rd_s, hs_s, cl_s, ci_s, cj_s, bw_s, brw_a, br_z, br_l, ownL_a, ow_l, ag_s, op_s, asB_b, asI_i, stL_a, gN_a, gAdd_a, gSub_a, gXor_a, gAnd_a, gLt_a, gLe_a, gGt_a, gGe_a, gMul_a, gDiv_a, gMod_a, gPow_a, gNeg_a, gNot_a, gEq_a, gNe_a, eqS_i, eqS_b, eqS_s, eqS_n, eqS_ni, eqS_in, lenD_l, lenD_t, lenD_s, intD_i, intD_b, n1_a, lim_a, ixD_l, ixD_t, truth_n, truth_b, truth_i, truth_t, truth_l, isTy_ii, isTy_ib, isTy_in, isTy_is, isTy_it, isTy_il, isTy_bi, isTy_bb, isTy_ss, isTy_si, isTy_sb, isTy_sn, isTy_st, isTy_sl, isTy_tt, isTy_ti, isTy_tb, isTy_tn, isTy_ts, isTy_tl, isTy_ll, isTy_li, isTy_lb, isTy_ln, isTy_ls, isTy_lt, endsOf_r, endsOf_n, endsOf_e, endsIO_r, endsIO_n, endsIO_e, rng1_a, rng2_a, cond_true, cond_false, Bool.and_true, Bool.true_and, Bool.and_false, Bool.false_and, Bool.or_true, Bool.true_or, Bool.or_false, Bool.false_or, Bool.not_true, Bool.not_false, decide_true, decide_false, Bool.false_eq_true, Bool.true_eq_false, if_true, if_false, eq_self, List.getElem?_cons_zero, List.getElem?_cons_succ, List.set_cons_zero, List.set_cons_succ, List.length_cons, List.length_nil, List.length_set, List.map_cons, List.map_nil, List.replicate, List.append_nil, List.nil_append, List.cons_append, Option.bind_some, Option.bind_none, Option.map_some, Option.map_none, Nat.reduceAdd, Nat.reduceSub, Nat.reduceLT, Nat.reduceLeDiff, Nat.reduceEqDiff, ↓reduceIte, e']
  have lr : (rangeD 0 16).length = 16 := by decide
  rw [lr] at el
  obtain ⟨m, em, hm⟩ := dat_of ys ey
  rw [el] at em hm
  subst em
  exact ⟨m, _, hm, ⟨_, _, _, rfl⟩, ec⟩
def Inv (xs : List Int) (μ : M) : Prop := ∃ p s c x2 x3 x4 x5 x6, 0 ≤ p ∧ μ = [some (.lst (xs.map .int), .z), some (row xs p s c), x2, x3, x4, x5, x6, none]
theorem once {xs : List Int} {n k : Nat} {m : Nat → Nat} (h1 : 1 ≤ n) (hk : n + k ≤ 16) (hm : ∀ i, i < n → m i < 16) {x0 x1 x2 x5 x7 : Option (D × Kd)} :
    l_law_0 [x0, x1, x2, some (.tup (dat n m), .z), some (.tup (blk n m k), .z), x5, some (.int (k : Int), .z), x7] = some (.ok .nx, [x0, x1, x2, some (.tup (dat n m), .z), some (.tup (blk n m k), .z), x5, some (.int (k : Int), .z), x7]) := by
  have e1 := encoded hm hk h1
  obtain ⟨L, eL, lL⟩ := blk_dis (n := n) (m := m) (c := k)
  have e2 := alike (L := L) (by omega)
  rw [← eL] at e2
  simp only [l_law_0, ↓bnd_def, ↓giv_a, ↓opt_a, ↓mSeq_a, ↓mIf_a, ↓mB_a, ↓mT_a, ↓m1_a, ↓mN_a, ↓m2_a, ↓mCh_a, ↓mAnd_a, ↓mOr_a, ↓vAnd_a, ↓vOr_a, ↓vNot_a, ↓vB_t, ↓vB_f, ↓vB0_t, ↓vB0_f, ↓cond_t, ↓cond_f, ↓unO_a, ↓toO_a, ↓mCall_a, ↓has_a, ↓mCallIO_a, ↓aNil_a, ↓aCons_a, ↓rdv_a, ↓mIxB_a, ↓mLenB_a, ↓mStIx_a, ↓put_a, ↓mSet_a, ↓mSetO_a, ↓mAug_a, ↓mRet_a, ↓mRetO_a, ↓mDrop_a, ↓mRaise_a, ↓mLstO_a, ↓mPar_a, ↓mFor_a, ↓mRg_a, ↓mIt_a, ↓mAsg_a, ↓mLc_a, ↓mItA_a, ↓hasL_a, ↓mUp1_a, ↓mSl_a, ↓mPart_a, ↓mJoin_a, ↓mDispO_a, ↓mPairs_n, ↓mPairs_c, ↓mListO_a, ↓mRepL_a, wp_nil, wp_cons, lg_s, RsQ_ok, sole_a, enumF_a, itemsD_l, itemsD_t, itemsD_s, zipF_l, zipF_t, upL_a, fApp_a, asI2_i, gSl_l, gSl_t, gSl_s, gAddX_i, gAddX_s, gAddX_t, gAddX_l, gMulX_i, gMulX_s, gMulX_t, gRepL_a, ixX_l, ixX_t, ixX_s, ixD_s, gEqX_a, gNeX_a, eqX_i, eqX_b, eqX_s, eqX_n, eqX_ni, eqX_in, eqX_t, eqX_l, gIn_a, gNotIn_a, gInX_s, sgnIn_a, gInX_t, gInX_l, gIsN_a, gNotN_a, isNon_n, isNon_i, isNon_t, isNon_l, isNon_s, asStr_a, gJoin_l, gJoin_t, gSum_a, gAll_a, gMax2_a, gMin2_a, gAbs_a, gTup_l, gTup_t, gLst_l, gLst_t, gRev_t, gRev_l, gRev_s, lcW_a, isTy_ds, ↓mForD_a, ↓mDictEnum_a, ↓mListRng_a, dw_a, dwv_d, qtS_a, dictEnum_l, dictEnum_t, lsRng_a, gShr_a, gShl_a, Rs_ok, Rs_exn, atI_0, ixN_0, atI_1, ixN_1, atI_2, ixN_2, atI_3, ixN_3, atI_4, ixN_4, atI_5, ixN_5, atI_6, ixN_6, atI_7, ixN_7, atI_8, ixN_8, atI_9, ixN_9, atI_10, ixN_10, atI_11, ixN_11, atI_12, ixN_12, atI_13, ixN_13, atI_14, ixN_14, atI_15, ixN_15, atI_16, ixN_16, sq_nx, sq_ct, sq_bk, sq_rt, sq_ex, lp_nx, lp_ct, lp_bk, lp_rt, lp_ex, tn_s, rd_z, rd_s, hs_s, cl_s, ci_s, cj_s, bw_s, brw_a, br_z, br_l, ownL_a, ow_l, ag_s, op_s, asB_b, asI_i, stL_a, gN_a, gAdd_a, gSub_a, gXor_a, gAnd_a, gLt_a, gLe_a, gGt_a, gGe_a, gMul_a, gDiv_a, gMod_a, gPow_a, gNeg_a, gNot_a, gEq_a, gNe_a, eqS_i, eqS_b, eqS_s, eqS_n, eqS_ni, eqS_in, lenD_l, lenD_t, lenD_s, intD_i, intD_b, n1_a, lim_a, ixD_l, ixD_t, truth_n, truth_b, truth_i, truth_t, truth_l, isTy_ii, isTy_ib, isTy_in, isTy_is, isTy_it, isTy_il, isTy_bi, isTy_bb, isTy_ss, isTy_si, isTy_sb, isTy_sn, isTy_st, isTy_sl, isTy_tt, isTy_ti, isTy_tb, isTy_tn, isTy_ts, isTy_tl, isTy_ll, isTy_li, isTy_lb, isTy_ln, isTy_ls, isTy_lt, endsOf_r, endsOf_n, endsOf_e, endsIO_r, endsIO_n, endsIO_e, rng1_a, rng2_a, cond_true, cond_false, Bool.and_true, Bool.true_and, Bool.and_false, Bool.false_and, Bool.or_true, Bool.true_or, Bool.or_false, Bool.false_or, Bool.not_true, Bool.not_false, decide_true, decide_false, Bool.false_eq_true, Bool.true_eq_false, if_true, if_false, eq_self, List.getElem?_cons_zero, List.getElem?_cons_succ, List.set_cons_zero, List.set_cons_succ, List.length_cons, List.length_nil, List.length_set, List.map_cons, List.map_nil, List.replicate, List.append_nil, List.nil_append, List.cons_append, Option.bind_some, Option.bind_none, Option.map_some, Option.map_none, Nat.reduceAdd, Nat.reduceSub, Nat.reduceLT, Nat.reduceLeDiff, Nat.reduceEqDiff, ↓reduceIte, e1, e2]
theorem turn {xs : List Int} {μ : M} {d : D} (h : Inv xs μ) : ∃ μ1, gN 2 (d, .z) μ = some μ1 ∧ ∃ μ2, Inv xs μ2 ∧ (l_law_1 μ1 = some (.ok .nx, μ2) ∨ l_law_1 μ1 = some (.ok .cont, μ2)) := by
  obtain ⟨p, s, c, x2, x3, x4, x5, x6, h0, rfl⟩ := h
  obtain ⟨n, k, m, p', s', c', h1, hk, hm, h0', e1⟩ := drawn_data (xs := xs) (p := p) (s := s) (c := c) h0
  have e2 := law_block hm hk
  have g36 : ∀ {u v : D} {y0 y1 y2 y3 y4 y5 y6 y7 : Option (D × Kd)}, gTp 2 (gsC (gN 3) (gsC (gN 6) gsN)) (D.tup [u, v], Kd.z) [y0, y1, y2, y3, y4, y5, y6, y7] = some [y0, y1, y2, some (u, .z), y4, y5, some (v, .z), y7] := fun {_ _ _ _ _ _ _ _ _ _} => rfl
  obtain ⟨μ2, e3, y5, rfl⟩ := turns_inv (g := gN 5) (b := l_law_0) (I := fun μ => ∃ y5, μ = [some (.lst (xs.map .int), .z), some (row xs p' s' c'), some (d, .z), some (.tup (dat n m), .z), some (.tup (blk n m k), .z), y5, some (.int (k : Int), .z), none]) (rangeD 0 2)
    [some (.lst (xs.map .int), .z), some (row xs p' s' c'), some (d, .z), some (.tup (dat n m), .z), some (.tup (blk n m k), .z), x5, some (.int (k : Int), .z), none] ⟨_, rfl⟩ fun μ e h _ => by
      obtain ⟨y5, rfl⟩ := h
      exact ⟨_, rfl, _, ⟨_, rfl⟩, .inl (once (xs := xs) h1 hk hm)⟩
  refine ⟨_, rfl, [some (.lst (xs.map .int), .z), some (row xs p' s' c'), some (d, .z), some (.tup (dat n m), .z), some (.tup (blk n m k), .z), y5, some (.int (k : Int), .z), none], ⟨_, _, _, _, _, _, _, _, h0', rfl⟩, .inl ?_⟩
  have r2 : inR 2 = true := by decide
  show l_law_1 [some (.lst (xs.map .int), .z), some (row xs p s c), some (d, .z), x3, x4, x5, x6, none] = _
  simp only [l_law_1, ↓bnd_def, ↓giv_a, ↓opt_a, ↓mSeq_a, ↓mIf_a, ↓mB_a, ↓mT_a, ↓m1_a, ↓mN_a, ↓m2_a, ↓mCh_a, ↓mAnd_a, ↓mOr_a, ↓vAnd_a, ↓vOr_a, ↓vNot_a, ↓vB_t, ↓vB_f, ↓vB0_t, ↓vB0_f, ↓cond_t, ↓cond_f, ↓unO_a, ↓toO_a, ↓mCall_a, ↓has_a, ↓mCallIO_a, ↓aNil_a, ↓aCons_a, ↓rdv_a, ↓mIxB_a, ↓mLenB_a, ↓mStIx_a, ↓put_a, ↓mSet_a, ↓mSetO_a, ↓mAug_a, ↓mRet_a, ↓mRetO_a, ↓mDrop_a, ↓mRaise_a, ↓mLstO_a, ↓mPar_a, ↓mFor_a, ↓mRg_a, ↓mIt_a, ↓mAsg_a, ↓mLc_a, ↓mItA_a, ↓hasL_a, ↓mUp1_a, ↓mSl_a, ↓mPart_a, ↓mJoin_a, ↓mDispO_a, ↓mPairs_n, ↓mPairs_c, ↓mListO_a, ↓mRepL_a, wp_nil, wp_cons, lg_s, RsQ_ok, sole_a, enumF_a, itemsD_l, itemsD_t, itemsD_s, zipF_l, zipF_t, upL_a, fApp_a, asI2_i, gSl_l, gSl_t, gSl_s, gAddX_i, gAddX_s, gAddX_t, gAddX_l, gMulX_i, gMulX_s, gMulX_t, gRepL_a, ixX_l, ixX_t, ixX_s, ixD_s, gEqX_a, gNeX_a, eqX_i, eqX_b, eqX_s, eqX_n, eqX_ni, eqX_in, eqX_t, eqX_l, gIn_a, gNotIn_a, gInX_s, sgnIn_a, gInX_t, gInX_l, gIsN_a, gNotN_a, isNon_n, isNon_i, isNon_t, isNon_l, isNon_s, asStr_a, gJoin_l, gJoin_t, gSum_a, gAll_a, gMax2_a, gMin2_a, gAbs_a, gTup_l, gTup_t, gLst_l, gLst_t, gRev_t, gRev_l, gRev_s, lcW_a, isTy_ds, ↓mForD_a, ↓mDictEnum_a, ↓mListRng_a, dw_a, dwv_d, qtS_a, dictEnum_l, dictEnum_t, lsRng_a, gShr_a, gShl_a, Rs_ok, Rs_exn, atI_0, ixN_0, atI_1, ixN_1, atI_2, ixN_2, atI_3, ixN_3, atI_4, ixN_4, atI_5, ixN_5, atI_6, ixN_6, atI_7, ixN_7, atI_8, ixN_8, atI_9, ixN_9, atI_10, ixN_10, atI_11, ixN_11, atI_12, ixN_12, atI_13, ixN_13, atI_14, ixN_14, atI_15, ixN_15, atI_16, ixN_16, sq_nx, sq_ct, sq_bk, sq_rt, sq_ex, lp_nx, lp_ct, lp_bk, lp_rt, lp_ex, tn_s, rd_z, rd_s, hs_s, cl_s, ci_s, cj_s, bw_s, brw_a, br_z, br_l, ownL_a, ow_l, ag_s, op_s, asB_b, asI_i, stL_a, gN_a, gAdd_a, gSub_a, gXor_a, gAnd_a, gLt_a, gLe_a, gGt_a, gGe_a, gMul_a, gDiv_a, gMod_a, gPow_a, gNeg_a, gNot_a, gEq_a, gNe_a, eqS_i, eqS_b, eqS_s, eqS_n, eqS_ni, eqS_in, lenD_l, lenD_t, lenD_s, intD_i, intD_b, n1_a, lim_a, ixD_l, ixD_t, truth_n, truth_b, truth_i, truth_t, truth_l, isTy_ii, isTy_ib, isTy_in, isTy_is, isTy_it, isTy_il, isTy_bi, isTy_bb, isTy_ss, isTy_si, isTy_sb, isTy_sn, isTy_st, isTy_sl, isTy_tt, isTy_ti, isTy_tb, isTy_tn, isTy_ts, isTy_tl, isTy_ll, isTy_li, isTy_lb, isTy_ln, isTy_ls, isTy_lt, endsOf_r, endsOf_n, endsOf_e, endsIO_r, endsIO_n, endsIO_e, rng1_a, rng2_a, cond_true, cond_false, Bool.and_true, Bool.true_and, Bool.and_false, Bool.false_and, Bool.or_true, Bool.true_or, Bool.or_false, Bool.false_or, Bool.not_true, Bool.not_false, decide_true, decide_false, Bool.false_eq_true, Bool.true_eq_false, if_true, if_false, eq_self, List.getElem?_cons_zero, List.getElem?_cons_succ, List.set_cons_zero, List.set_cons_succ, List.length_cons, List.length_nil, List.length_set, List.map_cons, List.map_nil, List.replicate, List.append_nil, List.nil_append, List.cons_append, Option.bind_some, Option.bind_none, Option.map_some, Option.map_none, Nat.reduceAdd, Nat.reduceSub, Nat.reduceLT, Nat.reduceLeDiff, Nat.reduceEqDiff, ↓reduceIte, e1, g36, ag_s, e2, r2, e3]
end G
end
section
namespace G
open Mn
mutual
theorem eqv_self : ∀ (d : D) (k : Nat), okD k d = true → PySem.PyData.eqv (pyD d) (pyD d) = true
  | .non, _, _ => rfl
  | .bl b, _, _ => by show (b == b) = true; simp
  | .int i, _, _ => by show (i == i) = true; simp
  | .str x, _, _ => by show ((⟨x.toArray⟩ : PySem.Str) == ⟨x.toArray⟩) = true; simp
  | .tup ds, 0, h => by cases h
  | .tup ds, k + 1, h => eqvs_self ds k h
  | .lst ds, 0, h => by cases h
  | .lst ds, k + 1, h => eqvs_self ds k h
  | .dct _ _, k, h => by cases k <;> cases h
theorem eqvs_self : ∀ (ds : List D) (k : Nat), okDs k ds = true → PySem.PyData.eqvAll (pyDs ds) (pyDs ds) = true
  | [], _, _ => rfl
  | d :: ds, k, h => by
    have h2 := Bool.and_eq_true_iff.mp h
    show (PySem.PyData.eqv (pyD d) (pyD d) && PySem.PyData.eqvAll (pyDs ds) (pyDs ds)) = true
    rw [eqv_self d k h2.1, eqvs_self ds k h2.2]
    rfl
end
theorem deq_self {d : D} (h : okD 8 d = true) : deq d d = true := eqv_self d 8 h
theorem okDs_all : ∀ {k : Nat} {ds : List D}, (∀ d ∈ ds, okD k d = true) → okDs k ds = true
  | _, [], _ => by simp [okDs]
  | k, d :: ds, h => by
    show (okD k d && okDs k ds) = true
    rw [h d List.mem_cons_self, okDs_all fun e he => h e (List.mem_cons_of_mem _ he)]
    rfl

theorem itp_one_all : ∀ a : _root_.Fin 16, 0 ^^^ gm a.val (gi 1) = a.val := by decide +kernel
theorem itp_one {x : Nat} {m : Nat → Nat} (h : m 0 < 16) : itp x 1 m = m 0 := itp_one_all ⟨m 0, h⟩
theorem blk0 {n : Nat} {m : Nat → Nat} : blk n m 0 = dat n m := by unfold blk; simp
theorem blk1 {m : Nat → Nat} (h : m 0 < 16) : blk 1 m 15 = (List.replicate 16 (dat 1 m)).flatten := by
  have e : ((List.range 15).map fun t => D.int ((itp (1 + t) 1 m : Nat) : Int)) = (List.range 15).map fun _ => D.int (m 0 : Int) := List.map_congr_left fun t _ => by rw [itp_one h]
  unfold blk
  rw [e]
  rfl
theorem ok_dis {L : List Int} : okD 8 (.tup (dis L)) = true := by
  show okDs 7 (dis L) = true
  refine okDs_all fun d hd => ?_
  obtain ⟨z, _, rfl⟩ := List.mem_map.mp hd
  rfl
theorem ok_blk {n c : Nat} {m : Nat → Nat} : okD 8 (.tup (blk n m c)) = true := by
  obtain ⟨L, e, _⟩ := blk_dis (n := n) (m := m) (c := c)
  rw [e]
  exact ok_dis
theorem law_true : LawTrue := by
  intro ns _
  obtain ⟨μ2, e, p, s, c, x2, x3, x4, x5, x6, h0, rfl⟩ := turns_inv (g := gN 2) (b := l_law_1) (I := Inv ns) (rangeD 0 4) [some (.lst (ns.map .int), .z), some (row ns 0 0 0), none, none, none, none, none, none] ⟨0, 0, 0, _, _, _, _, _, by decide, rfl⟩ fun μ d h _ => turn h
  obtain ⟨m, μ', hm, ⟨p', s', c', rfl⟩, ed⟩ := drawn16 (xs := ns) (p := p) (s := s) (c := c) h0 (x2 := x2) (x3 := x3) (x4 := x4) (x5 := x5) (x6 := x6)
  have r1 : inR 4 = true := by decide
  have r2 : inR 16 = true := by decide
  have d1 : decide ((rangeD 0 16).length ≤ 16777216) = true := by decide
  have f1 := encoded (n := 16) (c := 0) hm (by omega) (by omega)
  have hm1 : ∀ i, i < 1 → m i < 16 := fun i hi => hm i (by omega)
  have f2 := encoded (n := 1) (c := 15) hm1 (by omega) (by omega)
  have f1' : f_encode_block [.tup (dat 16 m), .int 0] = some (.ok (.tup (dat 16 m), .z)) := by rw [blk0] at f1; exact f1
  have f2' : f_encode_block [.tup (dat 1 m), .int 15] = some (.ok (.tup (blk 1 m 15), .z)) := f2
  have cu : cut (dat 16 m) none (some 1) = dat 1 m := rfl
  have k1 : okD 8 (.tup (dat 16 m)) = true := by
    have := ok_blk (n := 16) (c := 0) (m := m)
    rw [blk0] at this
    exact this
  have k2 : deq (.tup (dat 16 m)) (.tup (dat 16 m)) = true := deq_self k1
  have k3 : okD 8 (.tup (blk 1 m 15)) = true := ok_blk
  have k4 : deq (.tup (blk 1 m 15)) (.tup (blk 1 m 15)) = true := deq_self k3
  have k5 : (List.replicate (16 : Int).toNat (dat 1 m)).flatten = blk 1 m 15 := (blk1 (hm 0 (by omega))).symm
  have w0 : wp [7] [some (D.lst (ns.map .int), Kd.z), some (row ns p s c), x2, x3, x4, x5, x6, none] = [some (D.lst (ns.map .int), Kd.z), some (row ns p s c), x2, x3, x4, x5, x6, none] := rfl
  have w1 : wp [7] [some (D.lst (ns.map .int), Kd.z), some (row ns p' s' c'), x2, x3, x4, x5, x6, none] = [some (D.lst (ns.map .int), Kd.z), some (row ns p' s' c'), x2, x3, x4, x5, x6, none] := rfl
  have q1 : decide ((2 : Int) ≤ 16) = true := by decide
  have q2 : decide ((16 : Int) ≤ 1000) = true := by decide
  have q3 : decide (1 ≤ 1) = true := by decide
  have q4 : decide (1 ≤ 1000) = true := by decide
  simp only [row] at e
  simp only [f_law, semF, b_law, mu0, ↓bnd_def, ↓giv_a, ↓opt_a, ↓mSeq_a, ↓mIf_a, ↓mB_a, ↓mT_a, ↓m1_a, ↓mN_a, ↓m2_a, ↓mCh_a, ↓mAnd_a, ↓mOr_a, ↓vAnd_a, ↓vOr_a, ↓vNot_a, ↓vB_t, ↓vB_f, ↓vB0_t, ↓vB0_f, ↓cond_t, ↓cond_f, ↓unO_a, ↓toO_a, ↓mCall_a, ↓has_a, ↓mCallIO_a, ↓aNil_a, ↓aCons_a, ↓rdv_a, ↓mIxB_a, ↓mLenB_a, ↓mStIx_a, ↓put_a, ↓mSet_a, ↓mSetO_a, ↓mAug_a, ↓mRet_a, ↓mRetO_a, ↓mDrop_a, ↓mRaise_a, ↓mLstO_a, ↓mPar_a, ↓mFor_a, ↓mRg_a, ↓mIt_a, ↓mAsg_a, ↓mLc_a, ↓mItA_a, ↓hasL_a, ↓mUp1_a, ↓mSl_a, ↓mPart_a, ↓mJoin_a, ↓mDispO_a, ↓mPairs_n, ↓mPairs_c, ↓mListO_a, ↓mRepL_a, wp_nil, wp_cons, lg_s, RsQ_ok, sole_a, enumF_a, itemsD_l, itemsD_t, itemsD_s, zipF_l, zipF_t, upL_a, fApp_a, asI2_i, gSl_l, gSl_t, gSl_s, gAddX_i, gAddX_s, gAddX_t, gAddX_l, gMulX_i, gMulX_s, gMulX_t, gRepL_a, ixX_l, ixX_t, ixX_s, ixD_s, gEqX_a, gNeX_a, eqX_i, eqX_b, eqX_s, eqX_n, eqX_ni, eqX_in, eqX_t, eqX_l, gIn_a, gNotIn_a, gInX_s, sgnIn_a, gInX_t, gInX_l, gIsN_a, gNotN_a, isNon_n, isNon_i, isNon_t, isNon_l, isNon_s, asStr_a, gJoin_l, gJoin_t, gSum_a, gAll_a, gMax2_a, gMin2_a, gAbs_a, gTup_l, gTup_t, gLst_l, gLst_t, gRev_t, gRev_l, gRev_s, lcW_a, isTy_ds, ↓mForD_a, ↓mDictEnum_a, ↓mListRng_a, dw_a, dwv_d, qtS_a, dictEnum_l, dictEnum_t, lsRng_a, gShr_a, gShl_a, Rs_ok, Rs_exn, atI_0, ixN_0, atI_1, ixN_1, atI_2, ixN_2, atI_3, ixN_3, atI_4, ixN_4, atI_5, ixN_5, atI_6, ixN_6, atI_7, ixN_7, atI_8, ixN_8, atI_9, ixN_9, atI_10, ixN_10, atI_11, ixN_11, atI_12, ixN_12, atI_13, ixN_13, atI_14, ixN_14, atI_15, ixN_15, atI_16, ixN_16, sq_nx, sq_ct, sq_bk, sq_rt, sq_ex, lp_nx, lp_ct, lp_bk, lp_rt, lp_ex, tn_s, rd_z, rd_s, hs_s, cl_s, ci_s, cj_s, bw_s, brw_a, br_z, br_l, ownL_a, ow_l, ag_s, op_s, asB_b, asI_i, stL_a, gN_a, gAdd_a, gSub_a, gXor_a, gAnd_a, gLt_a, gLe_a, gGt_a, gGe_a, gMul_a, gDiv_a, gMod_a, gPow_a, gNeg_a, gNot_a, gEq_a, gNe_a, eqS_i, eqS_b, eqS_s, eqS_n, eqS_ni, eqS_in, lenD_l, lenD_t, lenD_s, intD_i, intD_b, n1_a, lim_a, ixD_l, ixD_t, truth_n, truth_b, truth_i, truth_t, truth_l, isTy_ii, isTy_ib, isTy_in, isTy_is, isTy_it, isTy_il, isTy_bi, isTy_bb, isTy_ss, isTy_si, isTy_sb, isTy_sn, isTy_st, isTy_sl, isTy_tt, isTy_ti, isTy_tb, isTy_tn, isTy_ts, isTy_tl, isTy_ll, isTy_li, isTy_lb, isTy_ln, isTy_ls, isTy_lt, endsOf_r, endsOf_n, endsOf_e, endsIO_r, endsIO_n, endsIO_e, rng1_a, rng2_a, cond_true, cond_false, Bool.and_true, Bool.true_and, Bool.and_false, Bool.false_and, Bool.or_true, Bool.true_or, Bool.or_false, Bool.false_or, Bool.not_true, Bool.not_false, decide_true, decide_false, Bool.false_eq_true, Bool.true_eq_false, if_true, if_false, eq_self, List.getElem?_cons_zero, List.getElem?_cons_succ, List.set_cons_zero, List.set_cons_succ, List.length_cons, List.length_nil, List.length_set, List.map_cons, List.map_nil, List.replicate, List.append_nil, List.nil_append, List.cons_append, Option.bind_some, Option.bind_none, Option.map_some, Option.map_none, Nat.reduceAdd, Nat.reduceSub, Nat.reduceLT, Nat.reduceLeDiff, Nat.reduceEqDiff, ↓reduceIte, r1, e]
  simp only [row] at ed w0 w1
  simp only [f_law, semF, b_law, mu0, ↓bnd_def, ↓giv_a, ↓opt_a, ↓mSeq_a, ↓mIf_a, ↓mB_a, ↓mT_a, ↓m1_a, ↓mN_a, ↓m2_a, ↓mCh_a, ↓mAnd_a, ↓mOr_a, ↓vAnd_a, ↓vOr_a, ↓vNot_a, ↓vB_t, ↓vB_f, ↓vB0_t, ↓vB0_f, ↓cond_t, ↓cond_f, ↓unO_a, ↓toO_a, ↓mCall_a, ↓has_a, ↓mCallIO_a, ↓aNil_a, ↓aCons_a, ↓rdv_a, ↓mIxB_a, ↓mLenB_a, ↓mStIx_a, ↓put_a, ↓mSet_a, ↓mSetO_a, ↓mAug_a, ↓mRet_a, ↓mRetO_a, ↓mDrop_a, ↓mRaise_a, ↓mLstO_a, ↓mPar_a, ↓mFor_a, ↓mRg_a, ↓mIt_a, ↓mAsg_a, ↓mLc_a, ↓mItA_a, ↓hasL_a, ↓mUp1_a, ↓mSl_a, ↓mPart_a, ↓mJoin_a, ↓mDispO_a, ↓mPairs_n, ↓mPairs_c, ↓mListO_a, ↓mRepL_a, wp_nil, wp_cons, lg_s, RsQ_ok, sole_a, enumF_a, itemsD_l, itemsD_t, itemsD_s, zipF_l, zipF_t, upL_a, fApp_a, asI2_i, gSl_l, gSl_t, gSl_s, gAddX_i, gAddX_s, gAddX_t, gAddX_l, gMulX_i, gMulX_s, gMulX_t, gRepL_a, ixX_l, ixX_t, ixX_s, ixD_s, gEqX_a, gNeX_a, eqX_i, eqX_b, eqX_s, eqX_n, eqX_ni, eqX_in, eqX_t, eqX_l, gIn_a, gNotIn_a, gInX_s, sgnIn_a, gInX_t, gInX_l, gIsN_a, gNotN_a, isNon_n, isNon_i, isNon_t, isNon_l, isNon_s, asStr_a, gJoin_l, gJoin_t, gSum_a, gAll_a, gMax2_a, gMin2_a, gAbs_a, gTup_l, gTup_t, gLst_l, gLst_t, gRev_t, gRev_l, gRev_s, lcW_a, isTy_ds, ↓mForD_a, ↓mDictEnum_a, ↓mListRng_a, dw_a, dwv_d, qtS_a, dictEnum_l, dictEnum_t, lsRng_a, gShr_a, gShl_a, Rs_ok, Rs_exn, atI_0, ixN_0, atI_1, ixN_1, atI_2, ixN_2, atI_3, ixN_3, atI_4, ixN_4, atI_5, ixN_5, atI_6, ixN_6, atI_7, ixN_7, atI_8, ixN_8, atI_9, ixN_9, atI_10, ixN_10, atI_11, ixN_11, atI_12, ixN_12, atI_13, ixN_13, atI_14, ixN_14, atI_15, ixN_15, atI_16, ixN_16, sq_nx, sq_ct, sq_bk, sq_rt, sq_ex, lp_nx, lp_ct, lp_bk, lp_rt, lp_ex, tn_s, rd_z, rd_s, hs_s, cl_s, ci_s, cj_s, bw_s, brw_a, br_z, br_l, ownL_a, ow_l, ag_s, op_s, asB_b, asI_i, stL_a, gN_a, gAdd_a, gSub_a, gXor_a, gAnd_a, gLt_a, gLe_a, gGt_a, gGe_a, gMul_a, gDiv_a, gMod_a, gPow_a, gNeg_a, gNot_a, gEq_a, gNe_a, eqS_i, eqS_b, eqS_s, eqS_n, eqS_ni, eqS_in, lenD_l, lenD_t, lenD_s, intD_i, intD_b, n1_a, lim_a, ixD_l, ixD_t, truth_n, truth_b, truth_i, truth_t, truth_l, isTy_ii, isTy_ib, isTy_in, isTy_is, isTy_it, isTy_il, isTy_bi, isTy_bb, isTy_ss, isTy_si, isTy_sb, isTy_sn, isTy_st, isTy_sl, isTy_tt, isTy_ti, isTy_tb, isTy_tn, isTy_ts, isTy_tl, isTy_ll, isTy_li, isTy_lb, isTy_ln, isTy_ls, isTy_lt, endsOf_r, endsOf_n, endsOf_e, endsIO_r, endsIO_n, endsIO_e, rng1_a, rng2_a, cond_true, cond_false, Bool.and_true, Bool.true_and, Bool.and_false, Bool.false_and, Bool.or_true, Bool.true_or, Bool.or_false, Bool.false_or, Bool.not_true, Bool.not_false, decide_true, decide_false, Bool.false_eq_true, Bool.true_eq_false, if_true, if_false, eq_self, List.getElem?_cons_zero, List.getElem?_cons_succ, List.set_cons_zero, List.set_cons_succ, List.length_cons, List.length_nil, List.length_set, List.map_cons, List.map_nil, List.replicate, List.append_nil, List.nil_append, List.cons_append, Option.bind_some, Option.bind_none, Option.map_some, Option.map_none, Nat.reduceAdd, Nat.reduceSub, Nat.reduceLT, Nat.reduceLeDiff, Nat.reduceEqDiff, ↓reduceIte, r2, d1, w0, ed, w1, f1', f2', cu, k1, k2, dat_len, q1, q2, q3, q4, k5, k3, k4]
end G
end
theorem PySem.Challenge.cw_squaremark_k02_check_symbols_holds : PySem.Challenge.rw_squaremark_k02_check_symbols.Holds :=
  G.holds_of G.law_true
