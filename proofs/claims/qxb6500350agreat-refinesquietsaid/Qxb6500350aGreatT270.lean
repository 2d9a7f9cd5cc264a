/- MADE BY PROGRAM (tools350/mir.py): mirror and walk. -/
import Derived.Test.Qxb6500350aGreatF2
import Derived.Test.Qxb6500350aGreatT268
import Derived.Test.Qxb6500350aGreatT269
import Derived.Test.Qxb6500350aGreatT296
set_option linter.unusedVariables false
set_option linter.unusedSimpArgs false
set_option maxRecDepth 20000
set_option maxHeartbeats 4000000
namespace Go.Proofs.Qxb6500350aGreat
open Go.Eng

/- (*index.Index).plant -/
def m270_w1 (n : Nat) (path : Str) (mm : Nat) : Int → Int → Index → Option (Int × Int × Index) := it3 (fun lp1 c1 c2 z1 =>
cond (decide (c2 < (path.length : Int))) (
ob1 (m268 n path c2) fun c5 =>
Option.bind (sSl path c2 c5) fun s1 =>
ob1 (m269 n z1 c1 s1) fun c6 =>
cond (decide (c6 = 0)) (
Option.bind (sSl path c2 c5) fun s2 =>
ob2 (m296 n z1 c1 s2 (decide (c5 = (path.length : Int)))) fun c7 z3 =>
cond (decide (c5 = (path.length : Int))) (
nm ({ z3 with files := (wi (z3.files + 1)) } : Index) fun z4 =>
lp1 c7 (wi (c5 + 1)) z4) (
lp1 c7 (wi (c5 + 1)) z3)) (
lp1 c6 (wi (c5 + 1)) z1)) (
some (c1, c2, z1))) mm
def m270 (n : Nat) (x : Index) (path : Str) : Option (Int × Index) :=
ob3 (m270_w1 n path n 0 0 x) fun c3 c4 z2 =>
some (c3, z2)
theorem t270 {n : Nat} {C : List Chunk} {rc1 : Int} {rz1 : Index} {b1 : Nat} {x : Index} {path : Str}   (hm : m270 n x path = some (rc1, rz1)) : Trip Tryz.prog 270 #[.pointer (some ⟨b1, 0, none⟩), .string ⟨(path : Str).toArray⟩] ([[(b1, .cells (Index.enc x).toArray 184 (0, 0))]] ++ [C]) (fun u S' => .int .i64 rc1 = u ∧ S' = [[(b1, .cells (Index.enc rz1).toArray 184 (0, 0))]] ++ [C]) := by
  refine fn_entry (args := [.pointer (some ⟨b1, 0, none⟩), .string ⟨(path : Str).toArray⟩]) Tryz.func270 rfl Tryz.ntmps270 rfl (fun w0 => ?_)
  refine c_seq ?_
  refine c_region ?_
  refine o_L (y_assign rfl) rfl rfl ?_
  refine o_nil0 rfl ?_
  refine c_seq ?_
  refine c_region ?_
  refine o_L (y_assign rfl) rfl rfl ?_
  refine o_nil0 rfl ?_
  refine c_seq ?_
  refine c_seq ?_
  refine c_region ?_
  refine o_L (y_assign rfl) rfl rfl ?_
  refine o_nil0 rfl ?_
  obtain ⟨c3, c4, z2, hj1, hm⟩ := bd3 hm
  refine c_joinP (n := 1) (fun sh G => sh = [(5, .int .i64 c3), (6, .int .i64 c4)] ∧ G = [[(b1, .cells (Index.enc z2).toArray 184 (0, 0))]]) (s_take (s_take s_nil)) (.s .z) (fun _ _ h => h) ?_ ?_
  · skip
    refine c_block ?_
    refine c_loopP (n := 1) (fun mm sh G => ∃ (c1 : Int), ∃ (c2 : Int), ∃ (z1 : Index), sh = [(5, .int .i64 c1), (6, .int .i64 c2)] ∧ G = [[(b1, .cells (Index.enc z1).toArray 184 (0, 0))]] ∧ m270_w1 n path mm c1 c2 z1 = some (c3, c4, z2)) n (s_take (s_take s_nil)) (.s .z) ⟨_, _, ⟨_, _, _, rfl, rfl, hj1⟩, ⟨rfl, rfl, trivial⟩, _, (s_take (s_take s_nil))⟩ ?_
    rintro mm sh G ⟨c1, c2, z1, rfl, rfl, hm⟩
    obtain ⟨mm1, rfl, hm⟩ := it3_s hm
    refine c_seq ?_
    refine c_seq ?_
    refine c_region ?_
    refine o_T (y_move rfl) rfl ?_
    refine o_T (y_move rfl) rfl ?_
    refine o_T (y_slen Tryz.underlying9 rfl) rfl ?_
    refine o_T (y_lss rfl rfl) rfl ?_
    refine o_nil1 12 rfl rfl ?_
    refine c_cond rfl (fun h1 => ?_) (fun h1 => ?_)
    · have hm := cd_t h1 hm
      refine c_skip ?_
      refine c_block ?_
      refine c_seq ?_
      refine c_region ?_
      refine o_T (y_move rfl) rfl ?_
      refine o_T (y_move rfl) rfl ?_
      obtain ⟨c5, hx1, hm⟩ := bd1 hm
      refine o_callC en_268 rfl s_nil (t268 hx1) rfl (fun u1 S1 hR1 => ?_)
      obtain ⟨rfl, rfl⟩ := hR1
      refine o_rest ?_
      refine o_L (y_assign rfl) rfl rfl ?_
      refine o_nil0 rfl ?_
      refine c_seq ?_
      refine c_region ?_
      refine o_T (y_move rfl) rfl ?_
      refine o_T (y_move rfl) rfl ?_
      refine o_T (y_move rfl) rfl ?_
      refine o_T (y_move rfl) rfl ?_
      refine o_T (y_move rfl) rfl ?_
      obtain ⟨s1, hx2, hm⟩ := bd hm
      refine o_T (y_ssl Tryz.underlying9 rfl (biS rfl) (biS rfl) hx2) rfl ?_
      obtain ⟨c6, hx3, hm⟩ := bd1 hm
      refine o_callC en_269 rfl (s_take s_nil) (t269 hx3) rfl (fun u2 S2 hR2 => ?_)
      obtain ⟨rfl, rfl⟩ := hR2
      refine o_rest ?_
      refine o_L (y_assign rfl) rfl rfl ?_
      refine o_nil0 rfl ?_
      refine c_seq ?_
      refine c_seq ?_
      refine c_region ?_
      refine o_T (y_move rfl) rfl ?_
      refine o_T (y_eql rfl rfl) rfl ?_
      refine o_nil1 24 rfl rfl ?_
      refine c_cond rfl (fun h2 => ?_) (fun h2 => ?_)
      · have hm := cd_t h2 hm
        refine c_seq ?_
        refine c_region ?_
        refine o_T (y_move rfl) rfl ?_
        refine o_T (y_move rfl) rfl ?_
        refine o_T (y_move rfl) rfl ?_
        refine o_T (y_move rfl) rfl ?_
        refine o_T (y_move rfl) rfl ?_
        obtain ⟨s2, hx4, hm⟩ := bd hm
        refine o_T (y_ssl Tryz.underlying9 rfl (biS rfl) (biS rfl) hx4) rfl ?_
        refine o_T (y_move rfl) rfl ?_
        refine o_T (y_move rfl) rfl ?_
        refine o_T (y_slen Tryz.underlying9 rfl) rfl ?_
        refine o_T (y_eql rfl rfl) rfl ?_
        obtain ⟨c7, z3, hx5, hm⟩ := bd2 hm
        refine o_callC en_296 rfl (s_take s_nil) (t296 hx5) rfl (fun u3 S3 hR3 => ?_)
        obtain ⟨rfl, rfl⟩ := hR3
        refine o_rest ?_
        refine o_L (y_assign rfl) rfl rfl ?_
        refine o_nil0 rfl ?_
        refine c_seq ?_
        refine c_region ?_
        refine o_T (y_move rfl) rfl ?_
        refine o_T (y_move rfl) rfl ?_
        refine o_T (y_slen Tryz.underlying9 rfl) rfl ?_
        refine o_T (y_eql rfl rfl) rfl ?_
        refine o_nil1 39 rfl rfl ?_
        refine c_cond rfl (fun h3 => ?_) (fun h3 => ?_)
        · have hm := cd_t h3 hm
          refine c_region ?_
          refine o_T (y_move rfl) rfl ?_
          refine o_T (y_nilck rfl) rfl ?_
          refine o_T (y_fa fl_184_2 rfl) rfl ?_
          refine o_ld one_3 rfl m0 (At.got (At.refl.comp Index.a_files)) rfl ?_
          refine o_T (y_add rfl rfl rfl) rfl ?_
          refine o_T (y_nilck rfl) rfl ?_
          refine o_T (y_fa fl_184_2 rfl) rfl ?_
          obtain ⟨z4, hn1, hm⟩ := nm_s hm
          refine o_stN one_3 rfl rfl rfl (Upd.z Index.u_files) r0 (show (Index.enc z4) = _ from by subst hn1; rfl) ?_
          refine o_nil0 rfl ?_
          refine c_seq ?_
          refine c_region ?_
          refine o_T (y_move rfl) rfl ?_
          refine o_L (y_assign rfl) rfl rfl ?_
          refine o_nil0 rfl ?_
          refine c_region ?_
          refine o_T (y_move rfl) rfl ?_
          refine o_T (y_add rfl rfl rfl) rfl ?_
          refine o_L (y_assign rfl) rfl rfl ?_
          refine o_nil0 rfl ?_
          exact ⟨mm1, Nat.lt_succ_self _, _, _, ⟨_, _, _, rfl, rfl, hm⟩, ⟨rfl, rfl, trivial⟩, ⟨rfl, rfl⟩, _, (s_take (s_take s_nil))⟩
        · have hm := cd_f h3 hm
          refine c_skip ?_
          refine c_seq ?_
          refine c_region ?_
          refine o_T (y_move rfl) rfl ?_
          refine o_L (y_assign rfl) rfl rfl ?_
          refine o_nil0 rfl ?_
          refine c_region ?_
          refine o_T (y_move rfl) rfl ?_
          refine o_T (y_add rfl rfl rfl) rfl ?_
          refine o_L (y_assign rfl) rfl rfl ?_
          refine o_nil0 rfl ?_
          exact ⟨mm1, Nat.lt_succ_self _, _, _, ⟨_, _, _, rfl, rfl, hm⟩, ⟨rfl, rfl, trivial⟩, ⟨rfl, rfl⟩, _, (s_take (s_take s_nil))⟩
      · have hm := cd_f h2 hm
        refine c_skip ?_
        refine c_seq ?_
        refine c_region ?_
        refine o_T (y_move rfl) rfl ?_
        refine o_L (y_assign rfl) rfl rfl ?_
        refine o_nil0 rfl ?_
        refine c_region ?_
        refine o_T (y_move rfl) rfl ?_
        refine o_T (y_add rfl rfl rfl) rfl ?_
        refine o_L (y_assign rfl) rfl rfl ?_
        refine o_nil0 rfl ?_
        exact ⟨mm1, Nat.lt_succ_self _, _, _, ⟨_, _, _, rfl, rfl, hm⟩, ⟨rfl, rfl, trivial⟩, ⟨rfl, rfl⟩, _, (s_take (s_take s_nil))⟩
    · have hm := cd_f h1 hm
      refine c_exit ?_
      obtain ⟨rfl, rfl, rfl⟩ := pr3 hm
      exact ⟨_, _, ⟨rfl, rfl⟩, ⟨rfl, rfl, trivial⟩, ⟨rfl, rfl⟩, _, (s_take (s_take s_nil))⟩
  · rintro sh G ⟨rfl, rfl⟩
    refine c_seq ?_
    refine c_region ?_
    refine o_T (y_move rfl) rfl ?_
    refine o_L (y_assign rfl) rfl rfl ?_
    refine o_nil0 rfl ?_
    refine c_ret ?_
    obtain ⟨rfl, rfl⟩ := pr2 hm
    refine fun aX wX heX hsX => ret1 Tryz.results270 heX rfl (s_take (s_take s_nil)) ?_
    exact ⟨rfl, rfl⟩
end Go.Proofs.Qxb6500350aGreat
