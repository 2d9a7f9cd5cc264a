/- What Settled asks of the abstract network, plainly. -/
import Derived.Test.Qxb6500351aGreatMd17
set_option linter.unusedVariables false
set_option linter.unusedSimpArgs false
namespace Go.Proofs.Qxb6500351aGreat
open Go.Eng
/-- how much is to have been offered -/
def setWant (x y : Ned) : Int := if (x.rcvd.length : Int) + 16 < y.sent.length then (x.rcvd.length : Int) + 16 else y.sent.length
/-- one end x and its peer y, as Settled asks of them -/
def setPair (i : Int) (x y : Ned) : Bool :=
  if y.peer ≠ i then true else if y.failed = true then true else
  if x.offered < setWant x y then false else
  if y.closed = true ∧ x.offered = y.sent.length ∧ x.peerFin = false then false else
  if x.peerFin = true ∧ y.peerFin = true ∧ x.state ≠ 4 then false else true
def setOne (l : List Ned) (i : Nat) : Bool := match l[i]? with
  | none => true
  | some x => if x.state = 1 ∨ x.state = 2 then false else if x.peer < 0 ∨ x.failed = true then true else
    match l[x.peer.toNat]? with
    | none => true
    | some y => setPair (i : Int) x y
def nSettled (l : List Ned) : Prop := ∀ i, i < l.length → setOne l i = true
def nSettledB (l : List Ned) : Bool := (List.range l.length).all (setOne l)
theorem nSettled_iff {l : List Ned} : nSettledB l = true ↔ nSettled l := by
  unfold nSettledB nSettled
  rw [List.all_eq_true]
  exact ⟨fun h i hi => h i (List.mem_range.2 hi), fun h i hi => h i (List.mem_range.1 hi)⟩
theorem nSettledB_no {l : List Ned} {k : Nat} (hk : k < l.length) (h : setOne l k = false) : nSettledB l = false := by
  cases hb : nSettledB l with
  | false => rfl
  | true => have := nSettled_iff.1 hb k hk; rw [h] at this; cases this
theorem nSettledB_yes {l : List Ned} {k : Nat} (hk : ¬ k < l.length) (h : ∀ j, j < k → setOne l j = true) : nSettledB l = true :=
  nSettled_iff.2 fun i hi => h i (by omega)
theorem setOne_at {l : List Ned} {k : Nat} (hk : k < l.length) : setOne l k = (if l[k].state = 1 ∨ l[k].state = 2 then false else if l[k].peer < 0 ∨ l[k].failed = true then true else
    match l[l[k].peer.toNat]? with
    | none => true
    | some y => setPair (k : Int) l[k] y) := by
  unfold setOne; rw [List.getElem?_eq_getElem hk]
theorem setOne_op {l : List Ned} {k : Nat} (hk : k < l.length) (h : l[k].state = 1 ∨ l[k].state = 2) : setOne l k = false := by
  rw [setOne_at hk, if_pos h]
theorem setOne_skip {l : List Ned} {k : Nat} (hk : k < l.length) (h : ¬ (l[k].state = 1 ∨ l[k].state = 2)) (h2 : l[k].peer < 0 ∨ l[k].failed = true) : setOne l k = true := by
  rw [setOne_at hk, if_neg h, if_pos h2]
theorem setOne_pair {l : List Ned} {k p : Nat} (hk : k < l.length) (hp : p < l.length) (h : ¬ (l[k].state = 1 ∨ l[k].state = 2)) (hpp : l[k].peer = (p : Int)) (h2 : ¬ l[k].failed = true) : setOne l k = setPair (k : Int) l[k] l[p] := by
  rw [setOne_at hk, if_neg h, if_neg (by rintro (q | q); omega; exact h2 q), hpp, Int.toNat_natCast, List.getElem?_eq_getElem hp]
theorem set_step {l : List Ned} {k : Nat} (h : ∀ j, j < k → setOne l j = true) (h1 : setOne l k = true) : ∀ j, j < k + 1 → setOne l j = true := fun j hj => by
  by_cases e : j = k
  · subst e; exact h1
  · exact h j (by omega)
end Go.Proofs.Qxb6500351aGreat
