/- The network's calls over rows laid bare: their claims over the whole list. MADE BY PROGRAM (tools/mkrp4.py). -/
import Derived.Test.Qxb6500351aGreatW58
set_option linter.unusedVariables false
set_option linter.unusedSimpArgs false
namespace Go.Proofs.Qxb6500351aGreat
open Go.Eng
theorem t100g (b : Nat) (v : Value) (l : List Ned) (gv gd : List Chunk) (dl : Nat → Int) (i : Int) (hn : LstN 83 16 edR v l gv gd) (hl : 0 < l.length) (hp : ∀ x ∈ l, x.peer < l.length) :
    Trip Tryz.prog 100 #[.pointer (some ⟨b, 0, none⟩), .int .i64 i] [[(b, .cells (Nt.mk v dl).enc 80 (0, 0))], gv, gd] (fun u S' => u = .bool (nEOF l i) ∧ S' = [[(b, .cells (Nt.mk v dl).enc 80 (0, 0))], gv, gd]) := by
  obtain ⟨bw, cw, cur, rfl, rfl, hO⟩ := (hn.lst hl).open
  obtain ⟨vr, vs, gr, gs, rest, pp, hx⟩ := cut2_ex hO i
  refine Trip.frame (F := [rest]) (t100 b bw cw cur l gd dl i vr vs gr gs hO hp hx) ?_ ?_
  · unfold Sel
    simp only [List.flatten_cons, List.flatten_nil, List.append_nil, List.append_assoc]
    exact List.Perm.append_left _ (List.Perm.append_left _ pp)
  · rintro u S' ⟨rfl, rfl⟩
    refine ⟨_, ?_, rfl, rfl⟩
    simp only [List.flatten_cons, List.flatten_nil, List.append_nil, List.append_assoc, List.cons_append, List.nil_append, List.flatten_append]
    exact List.Perm.cons _ (List.Perm.cons _ pp.symm)
def nReadB (l : List Ned) (i : Int) (d : List Int) : Bool := nHas l i && decide (0 < d.length) && decide (0 ≤ nPeer l i) && decide (nRcvd (nReadL l i d) i <+: nSent (nReadL l i d) (nPeer l i))
theorem mem_set {α : Type} {l : List α} {k : Nat} {a x : α} (h : x ∈ l.set k a) : x ∈ l ∨ x = a := List.mem_or_eq_of_mem_set h
end Go.Proofs.Qxb6500351aGreat
