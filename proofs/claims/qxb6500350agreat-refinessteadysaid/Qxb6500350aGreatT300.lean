/- MADE BY PROGRAM (tools350/mir.py): mirror and walk. -/
import Derived.Test.Qxb6500350aGreatF2
import Derived.Test.Qxb6500350aGreatT259
set_option linter.unusedVariables false
set_option linter.unusedSimpArgs false
set_option maxRecDepth 20000
set_option maxHeartbeats 4000000
namespace Go.Proofs.Qxb6500350aGreat
open Go.Eng

/- (*objects.Store).pick -/
def m300_w1 (n : Nat) (s : Store) (n_ : Int) (mm : Nat) : Int → Int → ((Int → Int)) → Option (Int × Int × ((Int → Int))) := it3 (fun lp1 c1 c2 z1 =>
cond ((decide (c2 < 145)) && (decide (c1 < n_))) (
ob1 (m259 n s c2) fun c5 =>
cond (!c5) (
Option.bind (ckA c1 3) fun _ =>
nm ((upI z1 c1 c2) : (Int → Int)) fun z3 =>
lp1 (wi (c1 + 1)) (wi (c2 + 1)) z3) (
lp1 c1 (wi (c2 + 1)) z1)) (
some (c1, c2, z1))) mm
def m300 (n : Nat) (s : Store) (n_ : Int) : Option (((Int → Int)) × Int) :=
ob3 (m300_w1 n s n_ n 0 1 (fun _ => 0)) fun c3 c4 z2 =>
nm (z2 : (Int → Int)) fun z4 =>
some (z4, c3)
theorem t300 {n : Nat} {C : List Chunk} {rx1 : (Int → Int)} {rc1 : Int} {b1 : Nat} {s : Store} {q1 : Option Addr} {n_ : Int}   (hm : m300 n s n_ = some (rx1, rc1)) : Trip Tryz.prog 300 #[.pointer (some ⟨b1, 0, none⟩), .int .i64 n_] ([[(b1, .cells (Store.enc ((.pointer q1)) s).toArray 126 (0, 0))]] ++ [C]) (fun u S' => .tuple #[.agg (encN encI rx1 3).toArray, .int .i64 rc1] = u ∧ S' = [[(b1, .cells (Store.enc ((.pointer q1)) s).toArray 126 (0, 0))]] ++ [C]) := by
  refine fn_entry (args := [.pointer (some ⟨b1, 0, none⟩), .int .i64 n_]) Tryz.func300 rfl Tryz.ntmps300 rfl (fun w0 => ?_)
  refine c_seq ?_
  refine c_region ?_
  refine o_alloc ze_304 rfl rfl (fun b2 => ?_)
  refine o_L (y_assign rfl) rfl rfl ?_
  refine o_nil0 rfl ?_
  refine c_seq ?_
  refine c_region ?_
  refine o_alloc ze_304 rfl rfl (fun b3 => ?_)
  refine o_nil0 rfl ?_
  refine c_seq ?_
  refine c_region ?_
  refine o_L (y_assign rfl) rfl rfl ?_
  refine o_nil0 rfl ?_
  refine c_seq ?_
  refine c_seq ?_
  refine c_region ?_
  refine o_L (y_assign rfl) rfl rfl ?_
  refine o_nil0 rfl ?_
  obtain ⟨c3, c4, z2, hj1, hm⟩ := bd3 hm
  refine c_joinP (n := 1) (fun sh G => sh = [(7, .int .i64 c3), (8, .int .i64 c4)] ∧ G = [[(b3, .cells (encN encI z2 3).toArray 304 (0, 0))]]) (s_take (s_take (s_take (s_take s_nil)))) (.s .z) (fun _ _ h => h) ?_ ?_
  · skip
    refine c_block ?_
    refine c_loopP (n := 1) (fun mm sh G => ∃ (c1 : Int), ∃ (c2 : Int), ∃ (z1 : (Int → Int)), sh = [(7, .int .i64 c1), (8, .int .i64 c2)] ∧ G = [[(b3, .cells (encN encI z1 3).toArray 304 (0, 0))]] ∧ m300_w1 n s n_ mm c1 c2 z1 = some (c3, c4, z2)) n (s_take (s_take (s_take (s_take s_nil)))) (.s .z) ⟨_, _, ⟨_, _, _, rfl, rfl, hj1⟩, ⟨rfl, rfl, trivial⟩, _, (s_take (s_take (s_take (s_take s_nil))))⟩ ?_
    rintro mm sh G ⟨c1, c2, z1, rfl, rfl, hm⟩
    obtain ⟨mm1, rfl, hm⟩ := it3_s hm
    refine c_seq ?_
    refine c_seq ?_
    refine c_joinP (n := 0) (fun sh G => sh = [(15, .bool ((decide (c2 < 145)) && (decide (c1 < n_))))] ∧ G = []) Sel.all' .z (fun _ _ h => h) ?_ ?_
    · skip
      refine c_region ?_
      refine o_T (y_move rfl) rfl ?_
      refine o_T (y_lss rfl rfl) rfl ?_
      refine o_T (y_move rfl) rfl ?_
      refine o_split 11 rfl (fun h1 => ?_) (fun h1 => ?_)
      · skip
        refine o_take rfl rfl rfl ?_
        refine o_T (y_move rfl) rfl ?_
        refine o_take rfl rfl rfl ?_
        refine o_T (y_move rfl) rfl ?_
        refine o_take rfl rfl rfl ?_
        refine o_T (y_lss rfl rfl) rfl ?_
        refine o_T (y_pickT rfl rfl) rfl ?_
        refine o_nil1 15 rfl rfl ?_
        refine ⟨_, _, ⟨rfl, rfl⟩, ⟨by first | rfl | exact gtb rfl (by simp only [h1, Bool.true_and, Bool.false_and, Bool.true_or, Bool.false_or, Bool.and_true, Bool.and_false, Bool.or_true, Bool.or_false, Bool.not_true, Bool.not_false]), trivial⟩, ⟨rfl, rfl⟩, _, (s_take (s_take (s_take (s_take s_nil))))⟩
      · skip
        refine o_pass rfl rfl rfl rfl rfl ?_
        refine o_pass rfl rfl rfl rfl rfl ?_
        refine o_pass rfl rfl rfl rfl rfl ?_
        refine o_T (y_pickF rfl rfl) rfl ?_
        refine o_nil1 15 rfl rfl ?_
        refine ⟨_, _, ⟨rfl, rfl⟩, ⟨by first | rfl | exact gtb rfl (by simp only [h1, Bool.true_and, Bool.false_and, Bool.true_or, Bool.false_or, Bool.and_true, Bool.and_false, Bool.or_true, Bool.or_false, Bool.not_true, Bool.not_false]), trivial⟩, ⟨rfl, rfl⟩, _, (s_take (s_take (s_take (s_take s_nil))))⟩
    · rintro sh G ⟨rfl, rfl⟩
      refine c_cond rfl (fun h2 => ?_) (fun h2 => ?_)
      · have hm := cd_t h2 hm
        refine c_skip ?_
        refine c_seq ?_
        refine c_block ?_
        refine c_seq ?_
        refine c_region ?_
        refine o_T (y_move rfl) rfl ?_
        refine o_T (y_move rfl) rfl ?_
        obtain ⟨c5, hx1, hm⟩ := bd1 hm
        refine o_callC en_259 rfl (s_skip (s_skip (s_take s_nil))) (t259 hx1) rfl (fun u1 S1 hR1 => ?_)
        obtain ⟨rfl, rfl⟩ := hR1
        refine o_rest ?_
        refine o_T (y_not rfl) rfl ?_
        refine o_nil1 21 rfl rfl ?_
        refine c_cond rfl (fun h3 => ?_) (fun h3 => ?_)
        · have hm := cd_t h3 hm
          refine c_seq ?_
          refine c_region ?_
          refine o_T (y_move rfl) rfl ?_
          refine o_T (y_move rfl) rfl ?_
          obtain ⟨_, hx2, hm⟩ := bd hm
          have hx2 := ckA_some hx2
          refine o_T (y_ia ar_304 rfl rfl hx2.1 hx2.2) rfl ?_
          obtain ⟨z3, hn1, hm⟩ := nm_s hm
          refine o_stN one_3 rfl rfl rfl (Upd.z (encN_u encI_len _ _ _ hx2.1 _ hx2.2)) (rs r0) (show (encN encI z3 3) = _ from by subst hn1; rfl) ?_
          refine o_nil0 rfl ?_
          refine c_region ?_
          refine o_T (y_move rfl) rfl ?_
          refine o_T (y_add rfl rfl rfl) rfl ?_
          refine o_L (y_assign rfl) rfl rfl ?_
          refine o_nil0 rfl ?_
          refine c_region ?_
          refine o_T (y_move rfl) rfl ?_
          refine o_T (y_add rfl rfl rfl) rfl ?_
          refine o_L (y_assign rfl) rfl rfl ?_
          refine o_nil0 rfl ?_
          exact ⟨mm1, Nat.lt_succ_self _, _, _, ⟨_, _, _, rfl, rfl, hm⟩, ⟨rfl, rfl, trivial⟩, ⟨rfl, rfl⟩, _, (s_get (ks k0) (s_get (ks k0) (s_take (s_take s_nil))))⟩
        · have hm := cd_f h3 hm
          refine c_skip ?_
          refine c_region ?_
          refine o_T (y_move rfl) rfl ?_
          refine o_T (y_add rfl rfl rfl) rfl ?_
          refine o_L (y_assign rfl) rfl rfl ?_
          refine o_nil0 rfl ?_
          exact ⟨mm1, Nat.lt_succ_self _, _, _, ⟨_, _, _, rfl, rfl, hm⟩, ⟨rfl, rfl, trivial⟩, ⟨rfl, rfl⟩, _, (s_get (ks k0) (s_get (ks k0) (s_take (s_take s_nil))))⟩
      · have hm := cd_f h2 hm
        refine c_exit ?_
        obtain ⟨rfl, rfl, rfl⟩ := pr3 hm
        exact ⟨_, _, ⟨rfl, rfl⟩, ⟨rfl, rfl, trivial⟩, ⟨rfl, rfl⟩, _, (s_take (s_take (s_take (s_take s_nil))))⟩
  · rintro sh G ⟨rfl, rfl⟩
    refine c_seq ?_
    refine c_region ?_
    refine o_lda ag_304 rfl m0 (At.exs At.refl (encN_len encI_len _ _)) (At.fits At.refl (encN_len encI_len _ _)) rfl ?_
    refine o_T (y_move rfl) rfl ?_
    obtain ⟨z4, hn2, hm⟩ := nm_s hm
    refine o_stNA ag_304 rfl rfl (encN_plain (fun _ => rfl) _ _) (encN_len encI_len _ _) (Upd.refl ((encN_len encI_len _ _).trans (encN_len encI_len _ _).symm)) (rs r0) (show (encN encI z4 3) = _ from by subst hn2; rfl) ?_
    refine o_L (y_assign rfl) rfl rfl ?_
    refine o_nil0 rfl ?_
    refine c_ret ?_
    obtain ⟨rfl, rfl⟩ := pr2 hm
    refine fun aX wX heX hsX => retct Tryz.results300 heX hsX rfl rfl ag_304 (ms m0) (by simp [encN_len encI_len]) (s_skip (s_skip (s_take (s_take s_nil)))) ?_
    exact ⟨rfl, rfl⟩
end Go.Proofs.Qxb6500350aGreat
