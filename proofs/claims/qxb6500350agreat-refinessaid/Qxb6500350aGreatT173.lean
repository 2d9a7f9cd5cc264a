/- MADE BY PROGRAM (tools350/mir.py): mirror and walk. -/
import Derived.Test.Qxb6500350aGreatF2
import Derived.Test.Qxb6500350aGreatT152
import Derived.Test.Qxb6500350aGreatT171
import Derived.Test.Qxb6500350aGreatT205
set_option linter.unusedVariables false
set_option linter.unusedSimpArgs false
set_option maxRecDepth 20000
set_option maxHeartbeats 4000000
namespace Go.Proofs.Qxb6500350aGreat
open Go.Eng

/- (*index.Index).Load -/
def m173_w1 (n : Nat) (l : (List File)) (mm : Nat) : Int → Index → Option (Int × Index) := it2 (fun lp1 c2 z2 =>
cond (decide (c2 < (l.length : Int))) (
Option.bind (ixL l c2) fun x1 =>
ob1 (m205 n z2 x1) fun z5 =>
lp1 (wi (c2 + 1)) z5) (
some (c2, z2))) mm
def m173 (n : Nat) (x : Index) (l : (List File)) : Option (Int × Index) :=
ob1 (m152 n l) fun c1 =>
cond (decide (¬ (c1 = 0))) (
some (c1, x)) (
ob1 (m171 n x) fun z1 =>
ob2 (m173_w1 n l n 0 z1) fun c3 z3 =>
some (0, z3))
theorem t173 {n : Nat} {C : List Chunk} {rc1 : Int} {rz1 : Index} {b1 : Nat} {x : Index} {v1 : Value} {l : (List File)} (hr1 : Rd rFile C v1 l)  (hm : m173 n x l = some (rc1, rz1)) : Trip Tryz.prog 173 #[.pointer (some ⟨b1, 0, none⟩), v1] ([[(b1, .cells (Index.enc x).toArray 184 (0, 0))]] ++ [C]) (fun u S' => .int .i64 rc1 = u ∧ S' = [[(b1, .cells (Index.enc rz1).toArray 184 (0, 0))]] ++ [C]) := by
  refine fn_entry (args := [.pointer (some ⟨b1, 0, none⟩), v1]) Tryz.func173 rfl Tryz.ntmps173 rfl (fun w0 => ?_)
  refine c_seq ?_
  refine c_region ?_
  refine o_L (y_assign rfl) rfl rfl ?_
  refine o_nil0 rfl ?_
  refine c_seq ?_
  refine c_region ?_
  refine o_T (y_move rfl) rfl ?_
  obtain ⟨c1, hx1, hm⟩ := bd1 hm
  refine o_callC en_152 rfl s_nil (t152 (hr1.mono (fun _ hz => (ms (mg hz)))) hx1) rfl (fun u1 S1 hR1 => ?_)
  obtain ⟨rfl, rfl⟩ := hR1
  refine o_rest ?_
  refine o_L (y_assign rfl) rfl rfl ?_
  refine o_nil0 rfl ?_
  refine c_seq ?_
  refine c_seq ?_
  refine c_region ?_
  refine o_T (y_move rfl) rfl ?_
  refine o_T (y_neq rfl rfl) rfl ?_
  refine o_nil1 10 rfl rfl ?_
  refine c_cond rfl (fun h1 => ?_) (fun h1 => ?_)
  · have hm := cd_t h1 hm
    refine c_seq ?_
    refine c_region ?_
    refine o_T (y_move rfl) rfl ?_
    refine o_L (y_assign rfl) rfl rfl ?_
    refine o_nil0 rfl ?_
    refine c_ret ?_
    obtain ⟨rfl, rfl⟩ := pr2 hm
    refine fun aX wX heX hsX => ret1 Tryz.results173 heX rfl (s_take (s_take s_nil)) ?_
    exact ⟨rfl, rfl⟩
  · have hm := cd_f h1 hm
    refine c_skip ?_
    refine c_seq ?_
    refine c_region ?_
    refine o_T (y_move rfl) rfl ?_
    obtain ⟨z1, hx2, hm⟩ := bd1 hm
    refine o_callC en_171 rfl (s_take s_nil) (t171 hx2) rfl (fun u2 S2 hR2 => ?_)
    obtain ⟨rfl, rfl⟩ := hR2
    refine o_rest ?_
    refine o_nil0 rfl ?_
    refine c_seq ?_
    refine c_seq ?_
    refine c_region ?_
    refine o_L (y_assign rfl) rfl rfl ?_
    refine o_nil0 rfl ?_
    obtain ⟨c3, z3, hj1, hm⟩ := bd2 hm
    refine c_joinP (n := 1) (fun sh G => sh = [(6, .int .i64 c3)] ∧ G = [[(b1, .cells (Index.enc z3).toArray 184 (0, 0))]]) (s_take (s_take s_nil)) (.s .z) (fun _ _ h => h) ?_ ?_
    · skip
      refine c_block ?_
      refine c_loopP (n := 1) (fun mm sh G => ∃ (c2 : Int), ∃ (z2 : Index), sh = [(6, .int .i64 c2)] ∧ G = [[(b1, .cells (Index.enc z2).toArray 184 (0, 0))]] ∧ m173_w1 n l mm c2 z2 = some (c3, z3)) n (s_take (s_take s_nil)) (.s .z) ⟨_, _, ⟨_, _, rfl, rfl, hj1⟩, ⟨rfl, trivial⟩, _, (s_take (s_take s_nil))⟩ ?_
      rintro mm sh G ⟨c2, z2, rfl, rfl, hm⟩
      obtain ⟨mm1, rfl, hm⟩ := it2_s hm
      refine c_seq ?_
      refine c_seq ?_
      refine c_region ?_
      refine o_T (y_move rfl) rfl ?_
      refine o_T (y_move rfl) rfl ?_
      refine o_T (y_lenR hr1 Tryz.underlying57 rfl) rfl ?_
      refine o_T (y_lss rfl rfl) rfl ?_
      refine o_nil1 17 rfl rfl ?_
      refine c_cond rfl (fun h2 => ?_) (fun h2 => ?_)
      · have hm := cd_t h2 hm
        refine c_skip ?_
        refine c_seq ?_
        refine c_block ?_
        refine c_region ?_
        refine o_T (y_move rfl) rfl ?_
        refine o_T (y_move rfl) rfl ?_
        refine o_T (y_move rfl) rfl ?_
        obtain ⟨x1, hx3, hm⟩ := bd hm
        obtain ⟨b2, w1, cs1, y1, z4, vs1, hc1, ha1, hr2, hy1⟩ := hr1.ix hx3
        obtain rfl : vs1 = File.enc x1 := hr2
        refine o_T (hy1 sl_57 rfl rfl rfl) rfl ?_
        refine o_lda ag_71 rfl (ms (mg hc1)) (At.ext (ha1) (File.len _)) (At.fit (ha1) (File.len _)) rfl ?_
        obtain ⟨z5, hx4, hm⟩ := bd1 hm
        refine o_callC en_205 rfl (s_take s_nil) (t205 hx4) rfl (fun u3 S3 hR3 => ?_)
        obtain ⟨rfl, rfl⟩ := hR3
        refine o_rest ?_
        refine o_nil0 rfl ?_
        refine c_region ?_
        refine o_T (y_move rfl) rfl ?_
        refine o_T (y_add rfl rfl rfl) rfl ?_
        refine o_L (y_assign rfl) rfl rfl ?_
        refine o_nil0 rfl ?_
        exact ⟨mm1, Nat.lt_succ_self _, _, _, ⟨_, _, rfl, rfl, hm⟩, ⟨rfl, trivial⟩, ⟨rfl, rfl⟩, _, (s_take (s_take s_nil))⟩
      · have hm := cd_f h2 hm
        refine c_exit ?_
        obtain ⟨rfl, rfl⟩ := pr2 hm
        exact ⟨_, _, ⟨rfl, rfl⟩, ⟨rfl, trivial⟩, ⟨rfl, rfl⟩, _, (s_take (s_take s_nil))⟩
    · rintro sh G ⟨rfl, rfl⟩
      refine c_seq ?_
      refine c_region ?_
      refine o_L (y_assign rfl) rfl rfl ?_
      refine o_nil0 rfl ?_
      refine c_ret ?_
      obtain ⟨rfl, rfl⟩ := pr2 hm
      refine fun aX wX heX hsX => ret1 Tryz.results173 heX rfl (s_take (s_take s_nil)) ?_
      exact ⟨rfl, rfl⟩
end Go.Proofs.Qxb6500350aGreat
