/- Walks put together by hand: packets. -/
import Derived.Test.Qxb6500351aGreatW24
set_option linter.unusedVariables false
namespace Go.Proofs.Qxb6500351aGreat
open Go.Eng
theorem t163 (b : Nat) (p : Ipt) (dst : Int) (b2 o n cap e : Nat) (cs : Array Value) (l : List Int) (ok : p.Ok) (hd : 0 ≤ dst ∧ dst ≤ 255) (hr : 1 ≤ n ∧ n ≤ 32) (hy : BytAt o n cap cs l) :
    Trip Tryz.prog 163 #[.pointer (some ⟨b, 0, none⟩), .int .i64 dst, .int .i64 6, .slice (some ⟨b2, o, none⟩) n cap] [[(b, .cells p.enc 153 (0, 0))], [(b2, .cells cs e (0, 0))]]
    (fun u S' => (p.credit ≤ 0 ∧ u = .tuple #[.slice none 0 0, .int .i64 12] ∧ S' = [[(b, .cells p.enc 153 (0, 0))], [(b2, .cells cs e (0, 0))]]) ∨ (0 < p.credit ∧ ∃ v gv gd, u = .tuple #[v, .int .i64 0] ∧ Lst 81 1 rowR v (p.out dst 6 l) gv gd ∧ S' = [gv, gd, [(b, .cells p.sent.enc 153 (0, 0))], [(b2, .cells cs e (0, 0))]])) := by
  rcases Nat.lt_or_ge 16 n with h | h
  · exact t163b b p dst b2 o n cap e cs l ok hd ⟨h, hr.2⟩ hy
  · exact t163a b p dst b2 o n cap e cs l ok hd ⟨hr.1, h⟩ hy
theorem t153i (b : Nat) (p : Ipt) (i : Nat) (off : Int) (b2 o n cap e : Nat) (cs : Array Value) (l : List Int) (ok : p.Ok) (hi : i < 3) (h0 : 0 ≤ off) (hf : off + n ≤ 40) (hy : BytAt o n cap cs l) :
    Trip Tryz.prog 153 #[.pointer (some ⟨b, 0, none⟩), .int .i64 (i : Int), .int .i64 off, .slice (some ⟨b2, o, none⟩) n cap] [[(b, .cells p.enc 153 (0, 0))], [(b2, .cells cs e (0, 0))]]
    (fun u S' => u = .tuple #[] ∧ S' = [[(b, .cells (p.lay i off.toNat l).enc 153 (0, 0))], [(b2, .cells cs e (0, 0))]]) := by
  obtain ⟨k, rfl⟩ := Int.eq_ofNat_of_zero_le h0
  exact t153 b p i k b2 o n cap e cs l ok hi (by omega) hy
end Go.Proofs.Qxb6500351aGreat
