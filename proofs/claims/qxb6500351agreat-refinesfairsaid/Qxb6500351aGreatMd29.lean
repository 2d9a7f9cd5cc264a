/- For Settle and Step. -/
import Derived.Test.Qxb6500351aGreatRp13
import Derived.Test.Qxb6500351aGreatEngZ2
set_option linter.unusedVariables false
set_option linter.unusedSimpArgs false
namespace Go.Proofs.Qxb6500351aGreat
open Go.Eng
/-- the world in a loop -/
structure WS where
  x : Wrld
  V : WV
  k : Nat
  gh : List Chunk
  gq : List Chunk
  gw : List Chunk
  gn : List Chunk
  gs : List Chunk
  gr : List Chunk
  gi : List Chunk
  go : List Chunk
  gm : List Chunk
theorem wd_lost (A : WA) (q : Bool) (x : Wrld) (V : WV) : (A.wd q x V).enc.extract 37 (37 + 3) = #[.int .i64 (x.lost 0), .int .i64 (x.lost 1), .int .i64 (x.lost 2)] := rfl
theorem LawK.rest {x : Wrld} {k : Nat} (h : LawK x k) (i : Int) : LawK { x with wr := wRest x.wr i } k := by obtain ⟨w, L, A⟩ := h; exact ⟨w, L, A.rest i⟩
theorem LawK.double {x : Wrld} {k : Nat} (h : LawK x k) (i : Int) : LawK { x with wr := wDouble x.wr i } k := by obtain ⟨w, L, A⟩ := h; exact ⟨w, L, A.double i⟩
theorem LawK.flip {x : Wrld} {k : Nat} (h : LawK x k) (i b : Int) : LawK { x with wr := wFlip x.wr i b } k := by obtain ⟨w, L, A⟩ := h; exact ⟨w, L, A.flip i b⟩
end Go.Proofs.Qxb6500351aGreat
