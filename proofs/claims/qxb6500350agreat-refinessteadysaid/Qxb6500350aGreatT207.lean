/- MADE BY PROGRAM (tools350/mir.py): mirror and walk. -/
import Derived.Test.Qxb6500350aGreatF2
set_option linter.unusedVariables false
set_option linter.unusedSimpArgs false
set_option maxRecDepth 20000
set_option maxHeartbeats 4000000
namespace Go.Proofs.Qxb6500350aGreat
open Go.Eng

/- (*index.Index).gather -/
def m207_w1 (n : Nat) (x : Index) (pre : Str) (depth : Int) (go : Index → Int → Str → Int → ((List Row_)) → Option ((List Row_))) (mm : Nat) : (List Row_) → Int → Int → Option ((List Row_) × Int × Int) := it3 (fun lp1 l1 c1 c2 =>
cond ((decide (c2 < 49)) && (decide (¬ (c1 = 0)))) (
Option.bind (ckA c1 49) fun _ =>
nm ((x.pool c1) : Nod) fun z1 =>
cond z1.file (
Option.bind (sAdd pre z1.name) fun s1 =>
Option.bind (apd l1 ({ f := ({ path := s1, data := z1.data, mode := z1.mode } : File), size := z1.size, hash := z1.hash } : Row_)) fun l3 =>
lp1 l3 z1.nxt (wi (c2 + 1))) (
cond (decide ((1 : Int) < depth)) (
Option.bind (sAdd pre z1.name) fun s2 =>
Option.bind (sAdd s2 [47]) fun s3 =>
ob1 (go x c1 s3 (wi (depth - 1)) l1) fun l4 =>
lp1 l4 z1.nxt (wi (c2 + 1))) (
lp1 l1 z1.nxt (wi (c2 + 1))))) (
some (l1, c1, c2))) mm
def m207 : Nat → Index → Int → Str → Int → ((List Row_)) → Option ((List Row_)) := rc5 fun n go x d pre depth out =>
Option.bind (ckA d 49) fun _ =>
ob3 (m207_w1 n x pre depth go n out ((x.pool d).child) 0) fun l2 c3 c4 =>
some l2
theorem t207 {n : Nat} {C : List Chunk} {rl1 : List Row_} {b1 : Nat} {x : Index} {d : Int} {pre : Str} {depth : Int} {v1 : Value} {out : (List Row_)} {g1 : List Chunk} (ho1 : Own rRow_ v1 out g1)  (hm : m207 n x d pre depth out = some rl1) : Trip Tryz.prog 207 #[.pointer (some ⟨b1, 0, none⟩), .int .i64 d, .string ⟨(pre : Str).toArray⟩, .int .i64 depth, v1] ([[(b1, .cells (Index.enc x).toArray 184 (0, 0))], g1] ++ [C]) (fun u S' => ∃ (ev1 : Value), ∃ (eg1 : List Chunk), ev1 = u ∧ S' = [[(b1, .cells (Index.enc x).toArray 184 (0, 0))], eg1] ++ [C] ∧ Own rRow_ ev1 rl1 eg1) := by
  induction n generalizing C b1 x d pre depth v1 out g1 rl1 with
  | zero => cases hm
  | succ n ih =>
    replace hm := rc5_s hm
    refine fn_entry (args := [.pointer (some ⟨b1, 0, none⟩), .int .i64 d, .string ⟨(pre : Str).toArray⟩, .int .i64 depth, v1]) Tryz.func207 rfl Tryz.ntmps207 rfl (fun w0 => ?_)
    refine c_seq ?_
    refine c_region ?_
    have ho2 : Own rRow_ (.slice none 0 0) [] [] := Own.nil
    refine o_emp ?_
    refine o_L (y_assign rfl) rfl rfl ?_
    refine o_nil0 rfl ?_
    refine c_seq ?_
    refine c_region ?_
    refine o_T (y_move rfl) rfl ?_
    refine o_T (y_move rfl) rfl ?_
    refine o_T (y_nilck rfl) rfl ?_
    refine o_T (y_fa fl_184_0 rfl) rfl ?_
    obtain ⟨_, hx1, hm⟩ := bd hm
    have hx1 := ckA_some hx1
    refine o_T (y_ia ar_182 rfl rfl hx1.1 hx1.2) rfl ?_
    refine o_T (y_fa fl_181_1 rfl) rfl ?_
    refine o_ld one_3 rfl (ms m0) (At.got (((At.refl.comp Index.a_pool).comp (encN_a Nod.len _ _ hx1.1 _ hx1.2)).comp Nod.a_child)) rfl ?_
    refine o_L (y_assign rfl) rfl rfl ?_
    refine o_nil0 rfl ?_
    refine c_seq ?_
    refine c_seq ?_
    refine c_region ?_
    refine o_L (y_assign rfl) rfl rfl ?_
    refine o_nil0 rfl ?_
    obtain ⟨l2, c3, c4, hj1, hm⟩ := bd3 hm
    refine c_joinP (n := 1) (fun sh G => ∃ (v3 : Value), ∃ (g3 : List Chunk), sh = [(4, v3), (11, .int .i64 c3), (12, .int .i64 c4)] ∧ G = [g3] ∧ Own rRow_ v3 l2 g3) (s_skip (s_get (ks k0) (s_take (s_take s_nil)))) (.s .z) (fun _ _ h => h) ?_ ?_
    · skip
      refine c_block ?_
      refine c_loopP (n := 1) (fun mm sh G => ∃ (l1 : List Row_), ∃ (c1 : Int), ∃ (c2 : Int), ∃ (v2 : Value), ∃ (g2 : List Chunk), sh = [(4, v2), (11, .int .i64 c1), (12, .int .i64 c2)] ∧ G = [g2] ∧ m207_w1 n x pre depth (m207 n) mm l1 c1 c2 = some (l2, c3, c4) ∧ Own rRow_ v2 l1 g2) n (s_skip (s_get (ks k0) (s_take (s_take s_nil)))) (.s .z) ⟨_, _, ⟨_, _, _, v1, _, rfl, rfl, hj1, ho1⟩, ⟨rfl, rfl, rfl, trivial⟩, _, (s_skip (s_get (ks k0) (s_take (s_take s_nil))))⟩ ?_
      rintro mm sh G ⟨l1, c1, c2, v2, g2, rfl, rfl, hm, ho3⟩
      obtain ⟨mm1, rfl, hm⟩ := it3_s hm
      refine c_seq ?_
      refine c_seq ?_
      refine c_joinP (n := 0) (fun sh G => sh = [(26, .bool ((decide (c2 < 49)) && (decide (¬ (c1 = 0)))))] ∧ G = []) Sel.all' .z (fun _ _ h => h) ?_ ?_
      · skip
        refine c_region ?_
        refine o_T (y_move rfl) rfl ?_
        refine o_T (y_lss rfl rfl) rfl ?_
        refine o_T (y_move rfl) rfl ?_
        refine o_split 23 rfl (fun h1 => ?_) (fun h1 => ?_)
        · skip
          refine o_take rfl rfl rfl ?_
          refine o_T (y_move rfl) rfl ?_
          refine o_take rfl rfl rfl ?_
          refine o_T (y_neq rfl rfl) rfl ?_
          refine o_T (y_pickT rfl rfl) rfl ?_
          refine o_nil1 26 rfl rfl ?_
          refine ⟨_, _, ⟨rfl, rfl⟩, ⟨by first | rfl | exact gtb rfl (by simp only [h1, Bool.true_and, Bool.false_and, Bool.true_or, Bool.false_or, Bool.and_true, Bool.and_false, Bool.or_true, Bool.or_false, Bool.not_true, Bool.not_false]), trivial⟩, ⟨rfl, rfl⟩, _, (s_take (s_take (s_take s_nil)))⟩
        · skip
          refine o_pass rfl rfl rfl rfl rfl ?_
          refine o_pass rfl rfl rfl rfl rfl ?_
          refine o_T (y_pickF rfl rfl) rfl ?_
          refine o_nil1 26 rfl rfl ?_
          refine ⟨_, _, ⟨rfl, rfl⟩, ⟨by first | rfl | exact gtb rfl (by simp only [h1, Bool.true_and, Bool.false_and, Bool.true_or, Bool.false_or, Bool.and_true, Bool.and_false, Bool.or_true, Bool.or_false, Bool.not_true, Bool.not_false]), trivial⟩, ⟨rfl, rfl⟩, _, (s_take (s_take (s_take s_nil)))⟩
      · rintro sh G ⟨rfl, rfl⟩
        refine c_cond rfl (fun h2 => ?_) (fun h2 => ?_)
        · have hm := cd_t h2 hm
          refine c_skip ?_
          refine c_seq ?_
          refine c_block ?_
          refine c_seq ?_
          refine c_region ?_
          refine o_T (y_move rfl) rfl ?_
          refine o_T (y_move rfl) rfl ?_
          refine o_T (y_nilck rfl) rfl ?_
          refine o_T (y_fa fl_184_0 rfl) rfl ?_
          obtain ⟨_, hx2, hm⟩ := bd hm
          have hx2 := ckA_some hx2
          refine o_T (y_ia ar_182 rfl rfl hx2.1 hx2.2) rfl ?_
          refine o_lda ag_181 rfl (ms m0) (At.exs ((At.refl.comp Index.a_pool).comp (encN_a Nod.len _ _ hx2.1 _ hx2.2)) (Nod.len _)) (At.fits ((At.refl.comp Index.a_pool).comp (encN_a Nod.len _ _ hx2.1 _ hx2.2)) (Nod.len _)) rfl ?_
          refine o_alloc ze_181 rfl rfl (fun b2 => ?_)
          obtain ⟨z1, hn1, hm⟩ := nm_s hm
          refine o_stNA ag_181 rfl rfl (Nod.plain _) (Nod.len _) (Upd.refl ((Nod.len _).trans (Nod.len _).symm)) r0 (show (Nod.enc z1) = _ from by subst hn1; rfl) ?_
          refine o_nil0 rfl ?_
          refine c_seq ?_
          refine c_seq ?_
          refine c_region ?_
          refine o_T (y_fa fl_181_3 rfl) rfl ?_
          refine o_ld one_4 rfl m0 (At.got (At.refl.comp Nod.a_file)) rfl ?_
          refine o_nil1 36 rfl rfl ?_
          refine c_cond rfl (fun h3 => ?_) (fun h3 => ?_)
          · have hm := cd_t h3 hm
            refine c_region ?_
            refine o_T (y_move rfl) rfl ?_
            refine o_T (y_move rfl) rfl ?_
            refine o_T (y_fa fl_181_0 rfl) rfl ?_
            refine o_ld one_9 rfl m0 (At.got (At.refl.comp Nod.a_name)) rfl ?_
            obtain ⟨s1, hx3, hm⟩ := bd hm
            refine o_T (y_sadd rfl rfl hx3) rfl ?_
            refine o_T (y_fa fl_181_4 rfl) rfl ?_
            refine o_ld one_9 rfl m0 (At.got (At.refl.comp Nod.a_data)) rfl ?_
            refine o_T (y_fa fl_181_5 rfl) rfl ?_
            refine o_ld one_3 rfl m0 (At.got (At.refl.comp Nod.a_mode)) rfl ?_
            refine o_T (y_build st_71 rfl (fbU rfl File.u_path rfl rfl (fbU rfl File.u_data rfl rfl (fbU rfl File.u_mode rfl rfl fbU0)))) rfl ?_
            refine o_T (y_fa fl_181_6 rfl) rfl ?_
            refine o_ld one_3 rfl m0 (At.got (At.refl.comp Nod.a_size)) rfl ?_
            refine o_T (y_fa fl_181_7 rfl) rfl ?_
            refine o_ld one_3 rfl m0 (At.got (At.refl.comp Nod.a_hash)) rfl ?_
            refine o_T (y_build st_224 rfl (fbU rfl Row_.u_f rfl rfl (fbU rfl Row_.u_size rfl rfl (fbU rfl Row_.u_hash rfl rfl fbU0)))) rfl ?_
            refine o_bs1 sz_221 rfl rfl rfl rfl rfl rfl (fun b3 => ?_)
            obtain ⟨l3, hx4, hm⟩ := bd hm
            refine o_appR (R := rRow_) (a := ({ f := ({ path := s1, data := z1.data, mode := z1.mode } : File), size := z1.size, hash := z1.hash } : Row_)) sz_221 rfl rfl rfl rfl ho3 rfl hx4 (Sel.e (s_get (ks (ks k0)) (s_take s_nil))) rfl (fun v4 g4 ho5 => ?_)
            refine o_L (y_assign rfl) rfl rfl ?_
            refine o_nil0 rfl ?_
            refine c_region ?_
            refine o_T (y_fa fl_181_2 rfl) rfl ?_
            refine o_ld one_3 rfl (ms m0) (At.got (At.refl.comp Nod.a_nxt)) rfl ?_
            refine o_L (y_assign rfl) rfl rfl ?_
            refine o_nil0 rfl ?_
            refine c_region ?_
            refine o_T (y_move rfl) rfl ?_
            refine o_T (y_add rfl rfl rfl) rfl ?_
            refine o_L (y_assign rfl) rfl rfl ?_
            refine o_nil0 rfl ?_
            exact ⟨mm1, Nat.lt_succ_self _, _, _, ⟨_, _, _, v4, _, rfl, rfl, hm, ho5⟩, ⟨rfl, rfl, rfl, trivial⟩, ⟨rfl, rfl⟩, _, (s_take (s_skip (s_take (s_take s_nil))))⟩
          · have hm := cd_f h3 hm
            refine c_seq ?_
            refine c_region ?_
            refine o_T (y_move rfl) rfl ?_
            refine o_T (y_gtr rfl rfl) rfl ?_
            refine o_nil1 55 rfl rfl ?_
            refine c_cond rfl (fun h4 => ?_) (fun h4 => ?_)
            · have hm := cd_t h4 hm
              refine c_region ?_
              refine o_T (y_move rfl) rfl ?_
              refine o_T (y_move rfl) rfl ?_
              refine o_T (y_move rfl) rfl ?_
              refine o_T (y_fa fl_181_0 rfl) rfl ?_
              refine o_ld one_9 rfl m0 (At.got (At.refl.comp Nod.a_name)) rfl ?_
              obtain ⟨s2, hx5, hm⟩ := bd hm
              refine o_T (y_sadd rfl rfl hx5) rfl ?_
              obtain ⟨s3, hx6, hm⟩ := bd hm
              refine o_T (y_sadd rfl rfl hx6) rfl ?_
              refine o_T (y_move rfl) rfl ?_
              refine o_T (y_sub rfl rfl rfl) rfl ?_
              refine o_T (y_move rfl) rfl ?_
              obtain ⟨l4, hx7, hm⟩ := bd1 hm
              refine o_callC en_207 rfl (s_skip (s_get (ks k0) (s_take s_nil))) (ih ho3 hx7) rfl (fun u1 S1 hR1 => ?_)
              obtain ⟨v5, g5, rfl, rfl, ho6⟩ := hR1
              refine o_rest ?_
              refine o_L (y_assign rfl) rfl rfl ?_
              refine o_nil0 rfl ?_
              refine c_region ?_
              refine o_T (y_fa fl_181_2 rfl) rfl ?_
              refine o_ld one_3 rfl (ms (ms m0)) (At.got (At.refl.comp Nod.a_nxt)) rfl ?_
              refine o_L (y_assign rfl) rfl rfl ?_
              refine o_nil0 rfl ?_
              refine c_region ?_
              refine o_T (y_move rfl) rfl ?_
              refine o_T (y_add rfl rfl rfl) rfl ?_
              refine o_L (y_assign rfl) rfl rfl ?_
              refine o_nil0 rfl ?_
              exact ⟨mm1, Nat.lt_succ_self _, _, _, ⟨_, _, _, v5, _, rfl, rfl, hm, ho6⟩, ⟨rfl, rfl, rfl, trivial⟩, ⟨rfl, rfl⟩, _, (s_get (ks k0) (s_take (s_skip (s_take s_nil))))⟩
            · have hm := cd_f h4 hm
              refine c_skip ?_
              refine c_region ?_
              refine o_T (y_fa fl_181_2 rfl) rfl ?_
              refine o_ld one_3 rfl m0 (At.got (At.refl.comp Nod.a_nxt)) rfl ?_
              refine o_L (y_assign rfl) rfl rfl ?_
              refine o_nil0 rfl ?_
              refine c_region ?_
              refine o_T (y_move rfl) rfl ?_
              refine o_T (y_add rfl rfl rfl) rfl ?_
              refine o_L (y_assign rfl) rfl rfl ?_
              refine o_nil0 rfl ?_
              exact ⟨mm1, Nat.lt_succ_self _, _, _, ⟨_, _, _, v2, _, rfl, rfl, hm, ho3⟩, ⟨rfl, rfl, rfl, trivial⟩, ⟨rfl, rfl⟩, _, (s_skip (s_take (s_take (s_take s_nil))))⟩
        · have hm := cd_f h2 hm
          refine c_exit ?_
          obtain ⟨rfl, rfl, rfl⟩ := pr3 hm
          exact ⟨_, _, ⟨v2, _, rfl, rfl, ho3⟩, ⟨rfl, rfl, rfl, trivial⟩, ⟨rfl, rfl⟩, _, (s_take (s_take (s_take s_nil)))⟩
    · rintro sh G ⟨v3, g3, rfl, rfl, ho4⟩
      refine c_seq ?_
      refine c_region ?_
      refine o_T (y_move rfl) rfl ?_
      refine o_L (y_assign rfl) rfl rfl ?_
      refine o_nil0 rfl ?_
      refine c_ret ?_
      obtain rfl := p1 hm
      refine fun aX wX heX hsX => ret1 Tryz.results207 heX rfl (s_get (ks k0) (s_take (s_take s_nil))) ?_
      exact ⟨v3, _, rfl, rfl, ho4⟩
end Go.Proofs.Qxb6500350aGreat
