/- MADE BY PROGRAM (tools350/mir.py): mirror and walk. -/
import Derived.Test.Qxb6500350aGreatF2
set_option linter.unusedVariables false
set_option linter.unusedSimpArgs false
set_option maxRecDepth 20000
set_option maxHeartbeats 4000000
namespace Go.Proofs.Qxb6500350aGreat
open Go.Eng

/- (*index.Index).childOf -/
def m269_w1 (n : Nat) (x : Index) (name : Str) (mm : Nat) : Int → Int → Option (Flow (Int) (Int × Int)) := it2 (fun lp1 c1 c2 =>
cond ((decide (c2 < 49)) && (decide (¬ (c1 = 0)))) (
Option.bind (ckA c1 49) fun _ =>
cond (decide (((x.pool c1).name) = name)) (
Option.bind (some c1) fun q1 => some (.ret q1)) (
Option.bind (ckA c1 49) fun _ =>
lp1 ((x.pool c1).nxt) (wi (c2 + 1)))) (
some (.nx (c1, c2)))) mm
def m269 (n : Nat) (x : Index) (d : Int) (name : Str) : Option (Int) :=
Option.bind (ckA d 49) fun _ =>
flow (m269_w1 n x name n ((x.pool d).child) 0) some (un2 fun c3 c4 =>
some 0)
theorem t269 {n : Nat} {C : List Chunk} {rc1 : Int} {b1 : Nat} {x : Index} {d : Int} {name : Str}   (hm : m269 n x d name = some rc1) : Trip Tryz.prog 269 #[.pointer (some ⟨b1, 0, none⟩), .int .i64 d, .string ⟨(name : Str).toArray⟩] ([[(b1, .cells (Index.enc x).toArray 184 (0, 0))]] ++ [C]) (fun u S' => .int .i64 rc1 = u ∧ S' = [[(b1, .cells (Index.enc x).toArray 184 (0, 0))]] ++ [C]) := by
  refine fn_entry (args := [.pointer (some ⟨b1, 0, none⟩), .int .i64 d, .string ⟨(name : Str).toArray⟩]) Tryz.func269 rfl Tryz.ntmps269 rfl (fun w0 => ?_)
  refine c_seq ?_
  refine c_region ?_
  refine o_L (y_assign rfl) rfl rfl ?_
  refine o_nil0 rfl ?_
  refine c_seq ?_
  refine c_region ?_
  refine o_T (y_move rfl) rfl ?_
  refine o_T (y_move rfl) rfl ?_
  refine o_T (y_nilck rfl) rfl ?_
  refine o_T (y_fa fl_184_0 rfl) rfl ?_
  obtain ⟨_, hx1, hm⟩ := bd hm
  have hx1 := ckA_some hx1
  refine o_T (y_ia ar_182 rfl rfl hx1.1 hx1.2) rfl ?_
  refine o_T (y_fa fl_181_1 rfl) rfl ?_
  refine o_ld one_3 rfl m0 (At.got (((At.refl.comp Index.a_pool).comp (encN_a Nod.len _ _ hx1.1 _ hx1.2)).comp Nod.a_child)) rfl ?_
  refine o_L (y_assign rfl) rfl rfl ?_
  refine o_nil0 rfl ?_
  refine c_seq ?_
  refine c_seq ?_
  refine c_region ?_
  refine o_L (y_assign rfl) rfl rfl ?_
  refine o_nil0 rfl ?_
  obtain ⟨f1, F1, hF1, hj1, hF2⟩ := fl2 hm
  refine c_joinP (n := 0) (fun sh G => ∃ (c3 : Int), ∃ (c4 : Int), sh = [(7, .int .i64 c3), (8, .int .i64 c4)] ∧ G = [] ∧ F1 (c3, c4) = some rc1) (s_take (s_take s_nil)) .z (fun _ _ h => h) ?_ ?_
  · skip
    refine c_block ?_
    refine c_loopP (n := 0) (fun mm sh G => ∃ (c1 : Int), ∃ (c2 : Int), sh = [(7, .int .i64 c1), (8, .int .i64 c2)] ∧ G = [] ∧ m269_w1 n x name mm c1 c2 = some f1) n (s_take (s_take s_nil)) .z ⟨_, _, ⟨_, _, rfl, rfl, hj1⟩, ⟨rfl, rfl, trivial⟩, _, (s_take (s_take s_nil))⟩ ?_
    rintro mm sh G ⟨c1, c2, rfl, rfl, hm⟩
    obtain ⟨mm1, rfl, hm⟩ := it2_s hm
    refine c_seq ?_
    refine c_seq ?_
    refine c_joinP (n := 0) (fun sh G => sh = [(21, .bool ((decide (c2 < 49)) && (decide (¬ (c1 = 0)))))] ∧ G = []) Sel.all' .z (fun _ _ h => h) ?_ ?_
    · skip
      refine c_region ?_
      refine o_T (y_move rfl) rfl ?_
      refine o_T (y_lss rfl rfl) rfl ?_
      refine o_T (y_move rfl) rfl ?_
      refine o_split 18 rfl (fun h1 => ?_) (fun h1 => ?_)
      · skip
        refine o_take rfl rfl rfl ?_
        refine o_T (y_move rfl) rfl ?_
        refine o_take rfl rfl rfl ?_
        refine o_T (y_neq rfl rfl) rfl ?_
        refine o_T (y_pickT rfl rfl) rfl ?_
        refine o_nil1 21 rfl rfl ?_
        refine ⟨_, _, ⟨rfl, rfl⟩, ⟨by first | rfl | exact gtb rfl (by simp only [h1, Bool.true_and, Bool.false_and, Bool.true_or, Bool.false_or, Bool.and_true, Bool.and_false, Bool.or_true, Bool.or_false, Bool.not_true, Bool.not_false]), trivial⟩, ⟨rfl, rfl⟩, _, (s_take (s_take s_nil))⟩
      · skip
        refine o_pass rfl rfl rfl rfl rfl ?_
        refine o_pass rfl rfl rfl rfl rfl ?_
        refine o_T (y_pickF rfl rfl) rfl ?_
        refine o_nil1 21 rfl rfl ?_
        refine ⟨_, _, ⟨rfl, rfl⟩, ⟨by first | rfl | exact gtb rfl (by simp only [h1, Bool.true_and, Bool.false_and, Bool.true_or, Bool.false_or, Bool.and_true, Bool.and_false, Bool.or_true, Bool.or_false, Bool.not_true, Bool.not_false]), trivial⟩, ⟨rfl, rfl⟩, _, (s_take (s_take s_nil))⟩
    · rintro sh G ⟨rfl, rfl⟩
      refine c_cond rfl (fun h2 => ?_) (fun h2 => ?_)
      · have hm := cd_t h2 hm
        refine c_skip ?_
        refine c_seq ?_
        refine c_block ?_
        refine c_seq ?_
        refine c_seq ?_
        refine c_region ?_
        refine o_T (y_move rfl) rfl ?_
        refine o_T (y_move rfl) rfl ?_
        refine o_T (y_nilck rfl) rfl ?_
        refine o_T (y_fa fl_184_0 rfl) rfl ?_
        obtain ⟨_, hx2, hm⟩ := bd hm
        have hx2 := ckA_some hx2
        refine o_T (y_ia ar_182 rfl rfl hx2.1 hx2.2) rfl ?_
        refine o_T (y_fa fl_181_0 rfl) rfl ?_
        refine o_ld one_9 rfl m0 (At.got (((At.refl.comp Index.a_pool).comp (encN_a Nod.len _ _ hx2.1 _ hx2.2)).comp Nod.a_name)) rfl ?_
        refine o_T (y_move rfl) rfl ?_
        refine o_T (y_seq rfl rfl) rfl ?_
        refine o_nil1 32 rfl rfl ?_
        refine c_cond rfl (fun h3 => ?_) (fun h3 => ?_)
        · have hm := cd_t h3 hm
          refine c_seq ?_
          refine c_region ?_
          refine o_T (y_move rfl) rfl ?_
          refine o_L (y_assign rfl) rfl rfl ?_
          refine o_nil0 rfl ?_
          refine c_ret ?_
          obtain ⟨q1, hq1, hm⟩ := bd hm
          have hm := fl_ret hm hF2
          have hm := hq1.trans hm
          obtain rfl := p1 hm
          refine fun aX wX heX hsX => ret1 Tryz.results269 heX rfl (s_take (s_take s_nil)) ?_
          exact ⟨rfl, rfl⟩
        · have hm := cd_f h3 hm
          refine c_skip ?_
          refine c_region ?_
          refine o_T (y_move rfl) rfl ?_
          refine o_T (y_move rfl) rfl ?_
          refine o_T (y_nilck rfl) rfl ?_
          refine o_T (y_fa fl_184_0 rfl) rfl ?_
          obtain ⟨_, hx3, hm⟩ := bd hm
          have hx3 := ckA_some hx3
          refine o_T (y_ia ar_182 rfl rfl hx3.1 hx3.2) rfl ?_
          refine o_T (y_fa fl_181_2 rfl) rfl ?_
          refine o_ld one_3 rfl m0 (At.got (((At.refl.comp Index.a_pool).comp (encN_a Nod.len _ _ hx3.1 _ hx3.2)).comp Nod.a_nxt)) rfl ?_
          refine o_L (y_assign rfl) rfl rfl ?_
          refine o_nil0 rfl ?_
          refine c_region ?_
          refine o_T (y_move rfl) rfl ?_
          refine o_T (y_add rfl rfl rfl) rfl ?_
          refine o_L (y_assign rfl) rfl rfl ?_
          refine o_nil0 rfl ?_
          exact ⟨mm1, Nat.lt_succ_self _, _, _, ⟨_, _, rfl, rfl, hm⟩, ⟨rfl, rfl, trivial⟩, ⟨rfl, rfl⟩, _, (s_take (s_take s_nil))⟩
      · have hm := cd_f h2 hm
        refine c_exit ?_
        have hm := fl_nx hm hF2
        exact ⟨_, _, ⟨_, _, rfl, rfl, hm⟩, ⟨rfl, rfl, trivial⟩, ⟨rfl, rfl⟩, _, (s_take (s_take s_nil))⟩
  · rintro sh G ⟨c3, c4, rfl, rfl, hm⟩
    subst hF1
    refine c_seq ?_
    refine c_region ?_
    refine o_L (y_assign rfl) rfl rfl ?_
    refine o_nil0 rfl ?_
    refine c_ret ?_
    obtain rfl := p1 hm
    refine fun aX wX heX hsX => ret1 Tryz.results269 heX rfl (s_take (s_take s_nil)) ?_
    exact ⟨rfl, rfl⟩
end Go.Proofs.Qxb6500350aGreat
