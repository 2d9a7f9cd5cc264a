/- MADE BY PROGRAM (tools350/mir.py): mirror and walk. -/
import Derived.Test.Qxb6500350aGreatF2
import Derived.Test.Qxb6500350aGreatT201
import Derived.Test.Qxb6500350aGreatT266
import Derived.Test.Qxb6500350aGreatT113
import Derived.Test.Qxb6500350aGreatT267
set_option linter.unusedVariables false
set_option linter.unusedSimpArgs false
set_option maxRecDepth 20000
set_option maxHeartbeats 4000000
namespace Go.Proofs.Qxb6500350aGreat
open Go.Eng

/- (*index.Index).sound -/
def m200_w1 (n : Nat) (x : Index) (pre : Str) (depth : Int) (go : Index → Tally → Int → Str → Int → Option (Tally)) (mm : Nat) : Str → Int → Int → Tally → Option (Flow (Tally) (Str × Int × Int × Tally)) := it4 (fun lp1 c1 c2 c3 z1 =>
cond (((decide (c3 < 49)) && (decide (¬ (c2 = 0)))) && (!z1.bad)) (
ob1 (m201 n z1 c2) fun z3 =>
cond z3.bad (
Option.bind (some z3) fun q1 => some (.ret q1)) (
Option.bind (ckA c2 49) fun _ =>
nm ((x.pool c2) : Nod) fun z4 =>
ob1 (m266 n z4.name z4.file) fun c7 =>
cond ((sLt c7 c1 || decide (c7 = c1)) || (decide (depth < 1))) (
nm ({ z3 with bad := true } : Tally) fun z5 =>
Option.bind (some z5) fun q2 => some (.ret q2)) (
cond z4.file (
nm ({ z3 with files := (wi (z3.files + 1)) } : Tally) fun z6 =>
Option.bind (sAdd pre z4.name) fun s1 =>
ob1 (m113 n s1) fun c8 =>
ob1 (m267 n z4.data) fun c9 =>
cond (((((((!c8) || (decide (¬ (z4.child = 0)))) || (decide (z4.mode < 0))) || (decide ((3 : Int) < z4.mode))) || (decide (¬ (z4.size = (z4.data.length : Int))))) || (decide ((180 : Int) < z4.size))) || (decide (¬ (z4.hash = c9)))) (
nm ({ z6 with bad := true } : Tally) fun z7 =>
lp1 c7 z4.nxt (wi (c3 + 1)) z7) (
lp1 c7 z4.nxt (wi (c3 + 1)) z6)) (
ob1 (cond (((((decide (z4.child = 0)) || (!(decide (z4.data = [])))) || (decide (¬ (z4.mode = 0)))) || (decide (¬ (z4.size = 0)))) || (decide (¬ (z4.hash = 0)))) (
nm ({ z3 with bad := true } : Tally) fun z9 =>
some z9) (
some z3)) fun z8 =>
Option.bind (sAdd pre z4.name) fun s2 =>
Option.bind (sAdd s2 [47]) fun s3 =>
ob1 (go x z8 c2 s3 (wi (depth - 1))) fun z10 =>
lp1 c7 z4.nxt (wi (c3 + 1)) z10)))) (
some (.nx (c1, c2, c3, z1)))) mm
def m200 : Nat → Index → Tally → Int → Str → Int → Option (Tally) := rc5 fun n go x ta d pre depth =>
Option.bind (ckA d 49) fun _ =>
flow (m200_w1 n x pre depth go n [] ((x.pool d).child) 0 ta) some (un4 fun c4 c5 c6 z2 =>
some z2)
theorem t200 {n : Nat} {C : List Chunk} {rz1 : Tally} {b1 : Nat} {x : Index} {d : Int} {pre : Str} {depth : Int} {b2 : Nat} {ta : Tally}   (hm : m200 n x ta d pre depth = some rz1) : Trip Tryz.prog 200 #[.pointer (some ⟨b1, 0, none⟩), .int .i64 d, .string ⟨(pre : Str).toArray⟩, .int .i64 depth, .pointer (some ⟨b2, 0, none⟩)] ([[(b1, .cells (Index.enc x).toArray 184 (0, 0))], [(b2, .cells (Tally.enc ta).toArray 217 (0, 0))]] ++ [C]) (fun u S' => .tuple #[] = u ∧ S' = [[(b1, .cells (Index.enc x).toArray 184 (0, 0))], [(b2, .cells (Tally.enc rz1).toArray 217 (0, 0))]] ++ [C]) := by
  induction n generalizing C b1 x d pre depth b2 ta rz1 with
  | zero => cases hm
  | succ n ih =>
    replace hm := rc5_s hm
    refine fn_entry (args := [.pointer (some ⟨b1, 0, none⟩), .int .i64 d, .string ⟨(pre : Str).toArray⟩, .int .i64 depth, .pointer (some ⟨b2, 0, none⟩)]) Tryz.func200 rfl Tryz.ntmps200 rfl (fun w0 => ?_)
    refine c_seq ?_
    refine c_region ?_
    refine o_L (y_assign rfl) rfl rfl ?_
    refine o_nil0 rfl ?_
    refine c_seq ?_
    refine c_region ?_
    refine o_T (y_move rfl) rfl ?_
    refine o_T (y_move rfl) rfl ?_
    refine o_T (y_nilck rfl) rfl ?_
    refine o_T (y_fa fl_184_0 rfl) rfl ?_
    obtain ⟨_, hx1, hm⟩ := bd hm
    have hx1 := ckA_some hx1
    refine o_T (y_ia ar_182 rfl rfl hx1.1 hx1.2) rfl ?_
    refine o_T (y_fa fl_181_1 rfl) rfl ?_
    refine o_ld one_3 rfl m0 (At.got (((At.refl.comp Index.a_pool).comp (encN_a Nod.len _ _ hx1.1 _ hx1.2)).comp Nod.a_child)) rfl ?_
    refine o_L (y_assign rfl) rfl rfl ?_
    refine o_nil0 rfl ?_
    refine c_seq ?_
    refine c_region ?_
    refine o_L (y_assign rfl) rfl rfl ?_
    refine o_nil0 rfl ?_
    obtain ⟨f1, F1, hF1, hj1, hF2⟩ := fl2 hm
    refine c_block ?_
    refine c_loopP (n := 1) (fun mm sh G => ∃ (c1 : Str), ∃ (c2 : Int), ∃ (c3 : Int), ∃ (z1 : Tally), sh = [(10, .string ⟨(c1 : Str).toArray⟩), (11, .int .i64 c2), (12, .int .i64 c3)] ∧ G = [[(b2, .cells (Tally.enc z1).toArray 217 (0, 0))]] ∧ m200_w1 n x pre depth (m200 n) mm c1 c2 c3 z1 = some f1) n (s_get (ks k0) (s_take (s_take s_nil))) (.s .z) ⟨_, _, ⟨_, _, _, _, rfl, rfl, hj1⟩, ⟨rfl, rfl, rfl, trivial⟩, _, (s_get (ks k0) (s_take (s_take s_nil)))⟩ ?_
    rintro mm sh G ⟨c1, c2, c3, z1, rfl, rfl, hm⟩
    obtain ⟨mm1, rfl, hm⟩ := it4_s hm
    refine c_seq ?_
    refine c_seq ?_
    refine c_joinP (n := 0) (fun sh G => sh = [(36, .bool (((decide (c3 < 49)) && (decide (¬ (c2 = 0)))) && (!z1.bad)))] ∧ G = []) Sel.all' .z (fun _ _ h => h) ?_ ?_
    · skip
      refine c_region ?_
      refine o_T (y_move rfl) rfl ?_
      refine o_T (y_lss rfl rfl) rfl ?_
      refine o_T (y_move rfl) rfl ?_
      refine o_split 26 rfl (fun h1 => ?_) (fun h1 => ?_)
      · skip
        refine o_take rfl rfl rfl ?_
        refine o_T (y_move rfl) rfl ?_
        refine o_take rfl rfl rfl ?_
        refine o_T (y_neq rfl rfl) rfl ?_
        refine o_T (y_pickT rfl rfl) rfl ?_
        refine o_T (y_move rfl) rfl ?_
        refine o_split 30 rfl (fun h2 => ?_) (fun h2 => ?_)
        · skip
          refine o_take rfl rfl rfl ?_
          refine o_T (y_move rfl) rfl ?_
          refine o_take rfl rfl rfl ?_
          refine o_T (y_nilck rfl) rfl ?_
          refine o_take rfl rfl rfl ?_
          refine o_T (y_fa fl_217_2 rfl) rfl ?_
          refine o_take rfl rfl rfl ?_
          refine o_ld one_4 rfl m0 (At.got (At.refl.comp Tally.a_bad)) rfl ?_
          refine o_take rfl rfl rfl ?_
          refine o_T (y_not rfl) rfl ?_
          refine o_T (y_pickT rfl rfl) rfl ?_
          refine o_nil1 36 rfl rfl ?_
          refine ⟨_, _, ⟨rfl, rfl⟩, ⟨by first | rfl | exact gtb rfl (by simp only [h1, h2, Bool.true_and, Bool.false_and, Bool.true_or, Bool.false_or, Bool.and_true, Bool.and_false, Bool.or_true, Bool.or_false, Bool.not_true, Bool.not_false]), trivial⟩, ⟨rfl, rfl⟩, _, (s_take (s_take (s_take s_nil)))⟩
        · skip
          refine o_pass rfl rfl rfl rfl rfl ?_
          refine o_pass rfl rfl rfl rfl rfl ?_
          refine o_pass rfl rfl rfl rfl rfl ?_
          refine o_pass rfl rfl rfl rfl rfl ?_
          refine o_pass rfl rfl rfl rfl rfl ?_
          refine o_T (y_pickF rfl rfl) rfl ?_
          refine o_nil1 36 rfl rfl ?_
          refine ⟨_, _, ⟨rfl, rfl⟩, ⟨by first | rfl | exact gtb rfl (by simp only [h1, h2, Bool.true_and, Bool.false_and, Bool.true_or, Bool.false_or, Bool.and_true, Bool.and_false, Bool.or_true, Bool.or_false, Bool.not_true, Bool.not_false]), trivial⟩, ⟨rfl, rfl⟩, _, (s_take (s_take (s_take s_nil)))⟩
      · skip
        refine o_pass rfl rfl rfl rfl rfl ?_
        refine o_pass rfl rfl rfl rfl rfl ?_
        refine o_T (y_pickF rfl rfl) rfl ?_
        refine o_T (y_move rfl) rfl ?_
        refine o_pass rfl rfl rfl rfl rfl ?_
        refine o_pass rfl rfl rfl rfl rfl ?_
        refine o_pass rfl rfl rfl rfl rfl ?_
        refine o_pass rfl rfl rfl rfl rfl ?_
        refine o_pass rfl rfl rfl rfl rfl ?_
        refine o_T (y_pickF rfl rfl) rfl ?_
        refine o_nil1 36 rfl rfl ?_
        refine ⟨_, _, ⟨rfl, rfl⟩, ⟨by first | rfl | exact gtb rfl (by simp only [h1, Bool.true_and, Bool.false_and, Bool.true_or, Bool.false_or, Bool.and_true, Bool.and_false, Bool.or_true, Bool.or_false, Bool.not_true, Bool.not_false]), trivial⟩, ⟨rfl, rfl⟩, _, (s_take (s_take (s_take s_nil)))⟩
    · rintro sh G ⟨rfl, rfl⟩
      refine c_cond rfl (fun h3 => ?_) (fun h3 => ?_)
      · have hm := cd_t h3 hm
        refine c_skip ?_
        refine c_seq ?_
        refine c_block ?_
        refine c_seq ?_
        refine c_region ?_
        refine o_T (y_move rfl) rfl ?_
        refine o_T (y_move rfl) rfl ?_
        obtain ⟨z3, hx2, hm⟩ := bd1 hm
        refine o_callC en_201 rfl (s_take s_nil) (t201 hx2) rfl (fun u1 S1 hR1 => ?_)
        obtain ⟨rfl, rfl⟩ := hR1
        refine o_rest ?_
        refine o_nil0 rfl ?_
        refine c_seq ?_
        refine c_seq ?_
        refine c_region ?_
        refine o_T (y_move rfl) rfl ?_
        refine o_T (y_nilck rfl) rfl ?_
        refine o_T (y_fa fl_217_2 rfl) rfl ?_
        refine o_ld one_4 rfl m0 (At.got (At.refl.comp Tally.a_bad)) rfl ?_
        refine o_nil1 45 rfl rfl ?_
        refine c_cond rfl (fun h4 => ?_) (fun h4 => ?_)
        · have hm := cd_t h4 hm
          refine c_ret ?_
          obtain ⟨q1, hq1, hm⟩ := bd hm
          have hm := fl_ret hm hF2
          have hm := hq1.trans hm
          obtain rfl := p1 hm
          refine fun aX wX heX hsX => ret0 Tryz.results200 (s_get (ks k0) (s_take (s_take s_nil))) ?_
          exact ⟨rfl, rfl⟩
        · have hm := cd_f h4 hm
          refine c_skip ?_
          refine c_seq ?_
          refine c_region ?_
          refine o_T (y_move rfl) rfl ?_
          refine o_T (y_move rfl) rfl ?_
          refine o_T (y_nilck rfl) rfl ?_
          refine o_T (y_fa fl_184_0 rfl) rfl ?_
          obtain ⟨_, hx3, hm⟩ := bd hm
          have hx3 := ckA_some hx3
          refine o_T (y_ia ar_182 rfl rfl hx3.1 hx3.2) rfl ?_
          refine o_lda ag_181 rfl (ms m0) (At.exs ((At.refl.comp Index.a_pool).comp (encN_a Nod.len _ _ hx3.1 _ hx3.2)) (Nod.len _)) (At.fits ((At.refl.comp Index.a_pool).comp (encN_a Nod.len _ _ hx3.1 _ hx3.2)) (Nod.len _)) rfl ?_
          refine o_alloc ze_181 rfl rfl (fun b3 => ?_)
          obtain ⟨z4, hn1, hm⟩ := nm_s hm
          refine o_stNA ag_181 rfl rfl (Nod.plain _) (Nod.len _) (Upd.refl ((Nod.len _).trans (Nod.len _).symm)) r0 (show (Nod.enc z4) = _ from by subst hn1; rfl) ?_
          refine o_nil0 rfl ?_
          refine c_seq ?_
          refine c_region ?_
          refine o_T (y_fa fl_181_0 rfl) rfl ?_
          refine o_ld one_9 rfl m0 (At.got (At.refl.comp Nod.a_name)) rfl ?_
          refine o_T (y_fa fl_181_3 rfl) rfl ?_
          refine o_ld one_4 rfl m0 (At.got (At.refl.comp Nod.a_file)) rfl ?_
          obtain ⟨c7, hx4, hm⟩ := bd1 hm
          refine o_callC en_266 rfl s_nil (t266 hx4) rfl (fun u2 S2 hR2 => ?_)
          obtain ⟨rfl, rfl⟩ := hR2
          refine o_rest ?_
          refine o_L (y_assign rfl) rfl rfl ?_
          refine o_nil0 rfl ?_
          refine c_seq ?_
          refine c_seq ?_
          refine c_joinP (n := 0) (fun sh G => sh = [(63, .bool ((sLt c7 c1 || decide (c7 = c1)) || (decide (depth < 1))))] ∧ G = []) Sel.all' .z (fun _ _ h => h) ?_ ?_
          · skip
            refine c_region ?_
            refine o_T (y_move rfl) rfl ?_
            refine o_T (y_move rfl) rfl ?_
            refine o_T (y_sle rfl rfl) rfl ?_
            refine o_T (y_move rfl) rfl ?_
            refine o_split 60 rfl (fun h5 => ?_) (fun h5 => ?_)
            · skip
              refine o_pass rfl rfl rfl rfl rfl ?_
              refine o_pass rfl rfl rfl rfl rfl ?_
              refine o_T (y_pickT rfl rfl) rfl ?_
              refine o_nil1 63 rfl rfl ?_
              refine ⟨_, _, ⟨rfl, rfl⟩, ⟨by first | rfl | exact gtb rfl (by simp only [h5, Bool.true_and, Bool.false_and, Bool.true_or, Bool.false_or, Bool.and_true, Bool.and_false, Bool.or_true, Bool.or_false, Bool.not_true, Bool.not_false]), trivial⟩, ⟨rfl, rfl⟩, _, (s_take (s_take (s_take (s_take s_nil))))⟩
            · skip
              refine o_take rfl rfl rfl ?_
              refine o_T (y_move rfl) rfl ?_
              refine o_take rfl rfl rfl ?_
              refine o_T (y_lss rfl rfl) rfl ?_
              refine o_T (y_pickF rfl rfl) rfl ?_
              refine o_nil1 63 rfl rfl ?_
              refine ⟨_, _, ⟨rfl, rfl⟩, ⟨by first | rfl | exact gtb rfl (by simp only [h5, Bool.true_and, Bool.false_and, Bool.true_or, Bool.false_or, Bool.and_true, Bool.and_false, Bool.or_true, Bool.or_false, Bool.not_true, Bool.not_false]), trivial⟩, ⟨rfl, rfl⟩, _, (s_take (s_take (s_take (s_take s_nil))))⟩
          · rintro sh G ⟨rfl, rfl⟩
            refine c_cond rfl (fun h6 => ?_) (fun h6 => ?_)
            · have hm := cd_t h6 hm
              refine c_seq ?_
              refine c_region ?_
              refine o_T (y_move rfl) rfl ?_
              refine o_T (y_nilck rfl) rfl ?_
              refine o_T (y_fa fl_217_2 rfl) rfl ?_
              obtain ⟨z5, hn2, hm⟩ := nm_s hm
              refine o_stN one_4 rfl rfl rfl (Upd.z Tally.u_bad) (rs r0) (show (Tally.enc z5) = _ from by subst hn2; rfl) ?_
              refine o_nil0 rfl ?_
              refine c_ret ?_
              obtain ⟨q2, hq2, hm⟩ := bd hm
              have hm := fl_ret hm hF2
              have hm := hq2.trans hm
              obtain rfl := p1 hm
              refine fun aX wX heX hsX => ret0 Tryz.results200 (s_skip (s_get (ks k0) (s_take (s_take s_nil)))) ?_
              exact ⟨rfl, rfl⟩
            · have hm := cd_f h6 hm
              refine c_skip ?_
              refine c_seq ?_
              refine c_region ?_
              refine o_T (y_move rfl) rfl ?_
              refine o_L (y_assign rfl) rfl rfl ?_
              refine o_nil0 rfl ?_
              refine c_seq ?_
              refine c_seq ?_
              refine c_region ?_
              refine o_T (y_fa fl_181_3 rfl) rfl ?_
              refine o_ld one_4 rfl m0 (At.got (At.refl.comp Nod.a_file)) rfl ?_
              refine o_nil1 69 rfl rfl ?_
              refine c_cond rfl (fun h7 => ?_) (fun h7 => ?_)
              · have hm := cd_t h7 hm
                refine c_seq ?_
                refine c_region ?_
                refine o_T (y_move rfl) rfl ?_
                refine o_T (y_nilck rfl) rfl ?_
                refine o_T (y_fa fl_217_1 rfl) rfl ?_
                refine o_ld one_3 rfl (ms m0) (At.got (At.refl.comp Tally.a_files)) rfl ?_
                refine o_T (y_add rfl rfl rfl) rfl ?_
                refine o_T (y_nilck rfl) rfl ?_
                refine o_T (y_fa fl_217_1 rfl) rfl ?_
                obtain ⟨z6, hn3, hm⟩ := nm_s hm
                refine o_stN one_3 rfl rfl rfl (Upd.z Tally.u_files) (rs r0) (show (Tally.enc z6) = _ from by subst hn3; rfl) ?_
                refine o_nil0 rfl ?_
                refine c_seq ?_
                refine c_region ?_
                refine o_T (y_move rfl) rfl ?_
                refine o_T (y_fa fl_181_0 rfl) rfl ?_
                refine o_ld one_9 rfl m0 (At.got (At.refl.comp Nod.a_name)) rfl ?_
                obtain ⟨s1, hx5, hm⟩ := bd hm
                refine o_T (y_sadd rfl rfl hx5) rfl ?_
                obtain ⟨c8, hx6, hm⟩ := bd1 hm
                refine o_callC en_113 rfl s_nil (t113 hx6) rfl (fun u3 S3 hR3 => ?_)
                obtain ⟨rfl, rfl⟩ := hR3
                refine o_rest ?_
                refine o_L (y_assign rfl) rfl rfl ?_
                refine o_nil0 rfl ?_
                refine c_seq ?_
                refine c_region ?_
                refine o_T (y_fa fl_181_4 rfl) rfl ?_
                refine o_ld one_9 rfl m0 (At.got (At.refl.comp Nod.a_data)) rfl ?_
                obtain ⟨c9, hx7, hm⟩ := bd1 hm
                refine o_callC en_267 rfl s_nil (t267 hx7) rfl (fun u4 S4 hR4 => ?_)
                obtain ⟨rfl, rfl⟩ := hR4
                refine o_rest ?_
                refine o_L (y_assign rfl) rfl rfl ?_
                refine o_nil0 rfl ?_
                refine c_seq ?_
                refine c_joinP (n := 0) (fun sh G => sh = [(120, .bool (((((((!c8) || (decide (¬ (z4.child = 0)))) || (decide (z4.mode < 0))) || (decide ((3 : Int) < z4.mode))) || (decide (¬ (z4.size = (z4.data.length : Int))))) || (decide ((180 : Int) < z4.size))) || (decide (¬ (z4.hash = c9)))))] ∧ G = []) Sel.all' .z (fun _ _ h => h) ?_ ?_
                · skip
                  refine c_region ?_
                  refine o_T (y_move rfl) rfl ?_
                  refine o_T (y_not rfl) rfl ?_
                  refine o_T (y_move rfl) rfl ?_
                  refine o_split 87 rfl (fun h8 => ?_) (fun h8 => ?_)
                  · skip
                    refine o_pass rfl rfl rfl rfl rfl ?_
                    refine o_pass rfl rfl rfl rfl rfl ?_
                    refine o_pass rfl rfl rfl rfl rfl ?_
                    refine o_T (y_pickT rfl rfl) rfl ?_
                    refine o_T (y_move rfl) rfl ?_
                    refine o_pass rfl rfl rfl rfl rfl ?_
                    refine o_pass rfl rfl rfl rfl rfl ?_
                    refine o_pass rfl rfl rfl rfl rfl ?_
                    refine o_T (y_pickT rfl rfl) rfl ?_
                    refine o_T (y_move rfl) rfl ?_
                    refine o_pass rfl rfl rfl rfl rfl ?_
                    refine o_pass rfl rfl rfl rfl rfl ?_
                    refine o_pass rfl rfl rfl rfl rfl ?_
                    refine o_T (y_pickT rfl rfl) rfl ?_
                    refine o_T (y_move rfl) rfl ?_
                    refine o_pass rfl rfl rfl rfl rfl ?_
                    refine o_pass rfl rfl rfl rfl rfl ?_
                    refine o_pass rfl rfl rfl rfl rfl ?_
                    refine o_pass rfl rfl rfl rfl rfl ?_
                    refine o_pass rfl rfl rfl rfl rfl ?_
                    refine o_pass rfl rfl rfl rfl rfl ?_
                    refine o_T (y_pickT rfl rfl) rfl ?_
                    refine o_T (y_move rfl) rfl ?_
                    refine o_pass rfl rfl rfl rfl rfl ?_
                    refine o_pass rfl rfl rfl rfl rfl ?_
                    refine o_pass rfl rfl rfl rfl rfl ?_
                    refine o_T (y_pickT rfl rfl) rfl ?_
                    refine o_T (y_move rfl) rfl ?_
                    refine o_pass rfl rfl rfl rfl rfl ?_
                    refine o_pass rfl rfl rfl rfl rfl ?_
                    refine o_pass rfl rfl rfl rfl rfl ?_
                    refine o_pass rfl rfl rfl rfl rfl ?_
                    refine o_T (y_pickT rfl rfl) rfl ?_
                    refine o_nil1 120 rfl rfl ?_
                    refine ⟨_, _, ⟨rfl, rfl⟩, ⟨by first | rfl | exact gtb rfl (by simp only [h8, Bool.true_and, Bool.false_and, Bool.true_or, Bool.false_or, Bool.and_true, Bool.and_false, Bool.or_true, Bool.or_false, Bool.not_true, Bool.not_false]), trivial⟩, ⟨rfl, rfl⟩, _, (s_take (s_take (s_take (s_take s_nil))))⟩
                  · skip
                    refine o_take rfl rfl rfl ?_
                    refine o_T (y_fa fl_181_1 rfl) rfl ?_
                    refine o_take rfl rfl rfl ?_
                    refine o_ld one_3 rfl m0 (At.got (At.refl.comp Nod.a_child)) rfl ?_
                    refine o_take rfl rfl rfl ?_
                    refine o_T (y_neq rfl rfl) rfl ?_
                    refine o_T (y_pickF rfl rfl) rfl ?_
                    refine o_T (y_move rfl) rfl ?_
                    refine o_split 92 rfl (fun h9 => ?_) (fun h9 => ?_)
                    · skip
                      refine o_pass rfl rfl rfl rfl rfl ?_
                      refine o_pass rfl rfl rfl rfl rfl ?_
                      refine o_pass rfl rfl rfl rfl rfl ?_
                      refine o_T (y_pickT rfl rfl) rfl ?_
                      refine o_T (y_move rfl) rfl ?_
                      refine o_pass rfl rfl rfl rfl rfl ?_
                      refine o_pass rfl rfl rfl rfl rfl ?_
                      refine o_pass rfl rfl rfl rfl rfl ?_
                      refine o_T (y_pickT rfl rfl) rfl ?_
                      refine o_T (y_move rfl) rfl ?_
                      refine o_pass rfl rfl rfl rfl rfl ?_
                      refine o_pass rfl rfl rfl rfl rfl ?_
                      refine o_pass rfl rfl rfl rfl rfl ?_
                      refine o_pass rfl rfl rfl rfl rfl ?_
                      refine o_pass rfl rfl rfl rfl rfl ?_
                      refine o_pass rfl rfl rfl rfl rfl ?_
                      refine o_T (y_pickT rfl rfl) rfl ?_
                      refine o_T (y_move rfl) rfl ?_
                      refine o_pass rfl rfl rfl rfl rfl ?_
                      refine o_pass rfl rfl rfl rfl rfl ?_
                      refine o_pass rfl rfl rfl rfl rfl ?_
                      refine o_T (y_pickT rfl rfl) rfl ?_
                      refine o_T (y_move rfl) rfl ?_
                      refine o_pass rfl rfl rfl rfl rfl ?_
                      refine o_pass rfl rfl rfl rfl rfl ?_
                      refine o_pass rfl rfl rfl rfl rfl ?_
                      refine o_pass rfl rfl rfl rfl rfl ?_
                      refine o_T (y_pickT rfl rfl) rfl ?_
                      refine o_nil1 120 rfl rfl ?_
                      refine ⟨_, _, ⟨rfl, rfl⟩, ⟨by first | rfl | exact gtb rfl (by simp only [h8, h9, Bool.true_and, Bool.false_and, Bool.true_or, Bool.false_or, Bool.and_true, Bool.and_false, Bool.or_true, Bool.or_false, Bool.not_true, Bool.not_false]), trivial⟩, ⟨rfl, rfl⟩, _, (s_take (s_take (s_take (s_take s_nil))))⟩
                    · skip
                      refine o_take rfl rfl rfl ?_
                      refine o_T (y_fa fl_181_5 rfl) rfl ?_
                      refine o_take rfl rfl rfl ?_
                      refine o_ld one_3 rfl m0 (At.got (At.refl.comp Nod.a_mode)) rfl ?_
                      refine o_take rfl rfl rfl ?_
                      refine o_T (y_lss rfl rfl) rfl ?_
                      refine o_T (y_pickF rfl rfl) rfl ?_
                      refine o_T (y_move rfl) rfl ?_
                      refine o_split 97 rfl (fun h10 => ?_) (fun h10 => ?_)
                      · skip
                        refine o_pass rfl rfl rfl rfl rfl ?_
                        refine o_pass rfl rfl rfl rfl rfl ?_
                        refine o_pass rfl rfl rfl rfl rfl ?_
                        refine o_T (y_pickT rfl rfl) rfl ?_
                        refine o_T (y_move rfl) rfl ?_
                        refine o_pass rfl rfl rfl rfl rfl ?_
                        refine o_pass rfl rfl rfl rfl rfl ?_
                        refine o_pass rfl rfl rfl rfl rfl ?_
                        refine o_pass rfl rfl rfl rfl rfl ?_
                        refine o_pass rfl rfl rfl rfl rfl ?_
                        refine o_pass rfl rfl rfl rfl rfl ?_
                        refine o_T (y_pickT rfl rfl) rfl ?_
                        refine o_T (y_move rfl) rfl ?_
                        refine o_pass rfl rfl rfl rfl rfl ?_
                        refine o_pass rfl rfl rfl rfl rfl ?_
                        refine o_pass rfl rfl rfl rfl rfl ?_
                        refine o_T (y_pickT rfl rfl) rfl ?_
                        refine o_T (y_move rfl) rfl ?_
                        refine o_pass rfl rfl rfl rfl rfl ?_
                        refine o_pass rfl rfl rfl rfl rfl ?_
                        refine o_pass rfl rfl rfl rfl rfl ?_
                        refine o_pass rfl rfl rfl rfl rfl ?_
                        refine o_T (y_pickT rfl rfl) rfl ?_
                        refine o_nil1 120 rfl rfl ?_
                        refine ⟨_, _, ⟨rfl, rfl⟩, ⟨by first | rfl | exact gtb rfl (by simp only [h8, h9, h10, Bool.true_and, Bool.false_and, Bool.true_or, Bool.false_or, Bool.and_true, Bool.and_false, Bool.or_true, Bool.or_false, Bool.not_true, Bool.not_false]), trivial⟩, ⟨rfl, rfl⟩, _, (s_take (s_take (s_take (s_take s_nil))))⟩
                      · skip
                        refine o_take rfl rfl rfl ?_
                        refine o_T (y_fa fl_181_5 rfl) rfl ?_
                        refine o_take rfl rfl rfl ?_
                        refine o_ld one_3 rfl m0 (At.got (At.refl.comp Nod.a_mode)) rfl ?_
                        refine o_take rfl rfl rfl ?_
                        refine o_T (y_gtr rfl rfl) rfl ?_
                        refine o_T (y_pickF rfl rfl) rfl ?_
                        refine o_T (y_move rfl) rfl ?_
                        refine o_split 102 rfl (fun h11 => ?_) (fun h11 => ?_)
                        · skip
                          refine o_pass rfl rfl rfl rfl rfl ?_
                          refine o_pass rfl rfl rfl rfl rfl ?_
                          refine o_pass rfl rfl rfl rfl rfl ?_
                          refine o_pass rfl rfl rfl rfl rfl ?_
                          refine o_pass rfl rfl rfl rfl rfl ?_
                          refine o_pass rfl rfl rfl rfl rfl ?_
                          refine o_T (y_pickT rfl rfl) rfl ?_
                          refine o_T (y_move rfl) rfl ?_
                          refine o_pass rfl rfl rfl rfl rfl ?_
                          refine o_pass rfl rfl rfl rfl rfl ?_
                          refine o_pass rfl rfl rfl rfl rfl ?_
                          refine o_T (y_pickT rfl rfl) rfl ?_
                          refine o_T (y_move rfl) rfl ?_
                          refine o_pass rfl rfl rfl rfl rfl ?_
                          refine o_pass rfl rfl rfl rfl rfl ?_
                          refine o_pass rfl rfl rfl rfl rfl ?_
                          refine o_pass rfl rfl rfl rfl rfl ?_
                          refine o_T (y_pickT rfl rfl) rfl ?_
                          refine o_nil1 120 rfl rfl ?_
                          refine ⟨_, _, ⟨rfl, rfl⟩, ⟨by first | rfl | exact gtb rfl (by simp only [h8, h9, h10, h11, Bool.true_and, Bool.false_and, Bool.true_or, Bool.false_or, Bool.and_true, Bool.and_false, Bool.or_true, Bool.or_false, Bool.not_true, Bool.not_false]), trivial⟩, ⟨rfl, rfl⟩, _, (s_take (s_take (s_take (s_take s_nil))))⟩
                        · skip
                          refine o_take rfl rfl rfl ?_
                          refine o_T (y_fa fl_181_6 rfl) rfl ?_
                          refine o_take rfl rfl rfl ?_
                          refine o_ld one_3 rfl m0 (At.got (At.refl.comp Nod.a_size)) rfl ?_
                          refine o_take rfl rfl rfl ?_
                          refine o_T (y_fa fl_181_4 rfl) rfl ?_
                          refine o_take rfl rfl rfl ?_
                          refine o_ld one_9 rfl m0 (At.got (At.refl.comp Nod.a_data)) rfl ?_
                          refine o_take rfl rfl rfl ?_
                          refine o_T (y_slen Tryz.underlying9 rfl) rfl ?_
                          refine o_take rfl rfl rfl ?_
                          refine o_T (y_neq rfl rfl) rfl ?_
                          refine o_T (y_pickF rfl rfl) rfl ?_
                          refine o_T (y_move rfl) rfl ?_
                          refine o_split 110 rfl (fun h12 => ?_) (fun h12 => ?_)
                          · skip
                            refine o_pass rfl rfl rfl rfl rfl ?_
                            refine o_pass rfl rfl rfl rfl rfl ?_
                            refine o_pass rfl rfl rfl rfl rfl ?_
                            refine o_T (y_pickT rfl rfl) rfl ?_
                            refine o_T (y_move rfl) rfl ?_
                            refine o_pass rfl rfl rfl rfl rfl ?_
                            refine o_pass rfl rfl rfl rfl rfl ?_
                            refine o_pass rfl rfl rfl rfl rfl ?_
                            refine o_pass rfl rfl rfl rfl rfl ?_
                            refine o_T (y_pickT rfl rfl) rfl ?_
                            refine o_nil1 120 rfl rfl ?_
                            refine ⟨_, _, ⟨rfl, rfl⟩, ⟨by first | rfl | exact gtb rfl (by simp only [h8, h9, h10, h11, h12, Bool.true_and, Bool.false_and, Bool.true_or, Bool.false_or, Bool.and_true, Bool.and_false, Bool.or_true, Bool.or_false, Bool.not_true, Bool.not_false]), trivial⟩, ⟨rfl, rfl⟩, _, (s_take (s_take (s_take (s_take s_nil))))⟩
                          · skip
                            refine o_take rfl rfl rfl ?_
                            refine o_T (y_fa fl_181_6 rfl) rfl ?_
                            refine o_take rfl rfl rfl ?_
                            refine o_ld one_3 rfl m0 (At.got (At.refl.comp Nod.a_size)) rfl ?_
                            refine o_take rfl rfl rfl ?_
                            refine o_T (y_gtr rfl rfl) rfl ?_
                            refine o_T (y_pickF rfl rfl) rfl ?_
                            refine o_T (y_move rfl) rfl ?_
                            refine o_split 115 rfl (fun h13 => ?_) (fun h13 => ?_)
                            · skip
                              refine o_pass rfl rfl rfl rfl rfl ?_
                              refine o_pass rfl rfl rfl rfl rfl ?_
                              refine o_pass rfl rfl rfl rfl rfl ?_
                              refine o_pass rfl rfl rfl rfl rfl ?_
                              refine o_T (y_pickT rfl rfl) rfl ?_
                              refine o_nil1 120 rfl rfl ?_
                              refine ⟨_, _, ⟨rfl, rfl⟩, ⟨by first | rfl | exact gtb rfl (by simp only [h8, h9, h10, h11, h12, h13, Bool.true_and, Bool.false_and, Bool.true_or, Bool.false_or, Bool.and_true, Bool.and_false, Bool.or_true, Bool.or_false, Bool.not_true, Bool.not_false]), trivial⟩, ⟨rfl, rfl⟩, _, (s_take (s_take (s_take (s_take s_nil))))⟩
                            · skip
                              refine o_take rfl rfl rfl ?_
                              refine o_T (y_fa fl_181_7 rfl) rfl ?_
                              refine o_take rfl rfl rfl ?_
                              refine o_ld one_3 rfl m0 (At.got (At.refl.comp Nod.a_hash)) rfl ?_
                              refine o_take rfl rfl rfl ?_
                              refine o_T (y_move rfl) rfl ?_
                              refine o_take rfl rfl rfl ?_
                              refine o_T (y_neq rfl rfl) rfl ?_
                              refine o_T (y_pickF rfl rfl) rfl ?_
                              refine o_nil1 120 rfl rfl ?_
                              refine ⟨_, _, ⟨rfl, rfl⟩, ⟨by first | rfl | exact gtb rfl (by simp only [h8, h9, h10, h11, h12, h13, Bool.true_and, Bool.false_and, Bool.true_or, Bool.false_or, Bool.and_true, Bool.and_false, Bool.or_true, Bool.or_false, Bool.not_true, Bool.not_false]), trivial⟩, ⟨rfl, rfl⟩, _, (s_take (s_take (s_take (s_take s_nil))))⟩
                · rintro sh G ⟨rfl, rfl⟩
                  refine c_cond rfl (fun h14 => ?_) (fun h14 => ?_)
                  · have hm := cd_t h14 hm
                    refine c_region ?_
                    refine o_T (y_move rfl) rfl ?_
                    refine o_T (y_nilck rfl) rfl ?_
                    refine o_T (y_fa fl_217_2 rfl) rfl ?_
                    obtain ⟨z7, hn4, hm⟩ := nm_s hm
                    refine o_stN one_4 rfl rfl rfl (Upd.z Tally.u_bad) (rs r0) (show (Tally.enc z7) = _ from by subst hn4; rfl) ?_
                    refine o_nil0 rfl ?_
                    refine c_region ?_
                    refine o_T (y_fa fl_181_2 rfl) rfl ?_
                    refine o_ld one_3 rfl m0 (At.got (At.refl.comp Nod.a_nxt)) rfl ?_
                    refine o_L (y_assign rfl) rfl rfl ?_
                    refine o_nil0 rfl ?_
                    refine c_region ?_
                    refine o_T (y_move rfl) rfl ?_
                    refine o_T (y_add rfl rfl rfl) rfl ?_
                    refine o_L (y_assign rfl) rfl rfl ?_
                    refine o_nil0 rfl ?_
                    exact ⟨mm1, Nat.lt_succ_self _, _, _, ⟨_, _, _, _, rfl, rfl, hm⟩, ⟨rfl, rfl, rfl, trivial⟩, ⟨rfl, rfl⟩, _, (s_skip (s_take (s_take (s_take s_nil))))⟩
                  · have hm := cd_f h14 hm
                    refine c_skip ?_
                    refine c_region ?_
                    refine o_T (y_fa fl_181_2 rfl) rfl ?_
                    refine o_ld one_3 rfl m0 (At.got (At.refl.comp Nod.a_nxt)) rfl ?_
                    refine o_L (y_assign rfl) rfl rfl ?_
                    refine o_nil0 rfl ?_
                    refine c_region ?_
                    refine o_T (y_move rfl) rfl ?_
                    refine o_T (y_add rfl rfl rfl) rfl ?_
                    refine o_L (y_assign rfl) rfl rfl ?_
                    refine o_nil0 rfl ?_
                    exact ⟨mm1, Nat.lt_succ_self _, _, _, ⟨_, _, _, _, rfl, rfl, hm⟩, ⟨rfl, rfl, rfl, trivial⟩, ⟨rfl, rfl⟩, _, (s_skip (s_take (s_take (s_take s_nil))))⟩
              · have hm := cd_f h7 hm
                refine c_seq ?_
                refine c_seq ?_
                refine c_joinP (n := 0) (fun sh G => sh = [(146, .bool (((((decide (z4.child = 0)) || (!(decide (z4.data = [])))) || (decide (¬ (z4.mode = 0)))) || (decide (¬ (z4.size = 0)))) || (decide (¬ (z4.hash = 0)))))] ∧ G = []) Sel.all' .z (fun _ _ h => h) ?_ ?_
                · skip
                  refine c_region ?_
                  refine o_T (y_fa fl_181_1 rfl) rfl ?_
                  refine o_ld one_3 rfl m0 (At.got (At.refl.comp Nod.a_child)) rfl ?_
                  refine o_T (y_eql rfl rfl) rfl ?_
                  refine o_T (y_move rfl) rfl ?_
                  refine o_split 127 rfl (fun h15 => ?_) (fun h15 => ?_)
                  · skip
                    refine o_pass rfl rfl rfl rfl rfl ?_
                    refine o_pass rfl rfl rfl rfl rfl ?_
                    refine o_pass rfl rfl rfl rfl rfl ?_
                    refine o_T (y_pickT rfl rfl) rfl ?_
                    refine o_T (y_move rfl) rfl ?_
                    refine o_pass rfl rfl rfl rfl rfl ?_
                    refine o_pass rfl rfl rfl rfl rfl ?_
                    refine o_pass rfl rfl rfl rfl rfl ?_
                    refine o_T (y_pickT rfl rfl) rfl ?_
                    refine o_T (y_move rfl) rfl ?_
                    refine o_pass rfl rfl rfl rfl rfl ?_
                    refine o_pass rfl rfl rfl rfl rfl ?_
                    refine o_pass rfl rfl rfl rfl rfl ?_
                    refine o_T (y_pickT rfl rfl) rfl ?_
                    refine o_T (y_move rfl) rfl ?_
                    refine o_pass rfl rfl rfl rfl rfl ?_
                    refine o_pass rfl rfl rfl rfl rfl ?_
                    refine o_pass rfl rfl rfl rfl rfl ?_
                    refine o_T (y_pickT rfl rfl) rfl ?_
                    refine o_nil1 146 rfl rfl ?_
                    refine ⟨_, _, ⟨rfl, rfl⟩, ⟨by first | rfl | exact gtb rfl (by simp only [h15, Bool.true_and, Bool.false_and, Bool.true_or, Bool.false_or, Bool.and_true, Bool.and_false, Bool.or_true, Bool.or_false, Bool.not_true, Bool.not_false]), trivial⟩, ⟨rfl, rfl⟩, _, (s_take (s_take (s_take (s_take s_nil))))⟩
                  · skip
                    refine o_take rfl rfl rfl ?_
                    refine o_T (y_fa fl_181_4 rfl) rfl ?_
                    refine o_take rfl rfl rfl ?_
                    refine o_ld one_9 rfl m0 (At.got (At.refl.comp Nod.a_data)) rfl ?_
                    refine o_take rfl rfl rfl ?_
                    refine o_T (y_sne rfl rfl) rfl ?_
                    refine o_T (y_pickF rfl rfl) rfl ?_
                    refine o_T (y_move rfl) rfl ?_
                    refine o_split 132 rfl (fun h16 => ?_) (fun h16 => ?_)
                    · skip
                      refine o_pass rfl rfl rfl rfl rfl ?_
                      refine o_pass rfl rfl rfl rfl rfl ?_
                      refine o_pass rfl rfl rfl rfl rfl ?_
                      refine o_T (y_pickT rfl rfl) rfl ?_
                      refine o_T (y_move rfl) rfl ?_
                      refine o_pass rfl rfl rfl rfl rfl ?_
                      refine o_pass rfl rfl rfl rfl rfl ?_
                      refine o_pass rfl rfl rfl rfl rfl ?_
                      refine o_T (y_pickT rfl rfl) rfl ?_
                      refine o_T (y_move rfl) rfl ?_
                      refine o_pass rfl rfl rfl rfl rfl ?_
                      refine o_pass rfl rfl rfl rfl rfl ?_
                      refine o_pass rfl rfl rfl rfl rfl ?_
                      refine o_T (y_pickT rfl rfl) rfl ?_
                      refine o_nil1 146 rfl rfl ?_
                      refine ⟨_, _, ⟨rfl, rfl⟩, ⟨by first | rfl | exact gtb rfl (by simp only [h15, h16, Bool.true_and, Bool.false_and, Bool.true_or, Bool.false_or, Bool.and_true, Bool.and_false, Bool.or_true, Bool.or_false, Bool.not_true, Bool.not_false]), trivial⟩, ⟨rfl, rfl⟩, _, (s_take (s_take (s_take (s_take s_nil))))⟩
                    · skip
                      refine o_take rfl rfl rfl ?_
                      refine o_T (y_fa fl_181_5 rfl) rfl ?_
                      refine o_take rfl rfl rfl ?_
                      refine o_ld one_3 rfl m0 (At.got (At.refl.comp Nod.a_mode)) rfl ?_
                      refine o_take rfl rfl rfl ?_
                      refine o_T (y_neq rfl rfl) rfl ?_
                      refine o_T (y_pickF rfl rfl) rfl ?_
                      refine o_T (y_move rfl) rfl ?_
                      refine o_split 137 rfl (fun h17 => ?_) (fun h17 => ?_)
                      · skip
                        refine o_pass rfl rfl rfl rfl rfl ?_
                        refine o_pass rfl rfl rfl rfl rfl ?_
                        refine o_pass rfl rfl rfl rfl rfl ?_
                        refine o_T (y_pickT rfl rfl) rfl ?_
                        refine o_T (y_move rfl) rfl ?_
                        refine o_pass rfl rfl rfl rfl rfl ?_
                        refine o_pass rfl rfl rfl rfl rfl ?_
                        refine o_pass rfl rfl rfl rfl rfl ?_
                        refine o_T (y_pickT rfl rfl) rfl ?_
                        refine o_nil1 146 rfl rfl ?_
                        refine ⟨_, _, ⟨rfl, rfl⟩, ⟨by first | rfl | exact gtb rfl (by simp only [h15, h16, h17, Bool.true_and, Bool.false_and, Bool.true_or, Bool.false_or, Bool.and_true, Bool.and_false, Bool.or_true, Bool.or_false, Bool.not_true, Bool.not_false]), trivial⟩, ⟨rfl, rfl⟩, _, (s_take (s_take (s_take (s_take s_nil))))⟩
                      · skip
                        refine o_take rfl rfl rfl ?_
                        refine o_T (y_fa fl_181_6 rfl) rfl ?_
                        refine o_take rfl rfl rfl ?_
                        refine o_ld one_3 rfl m0 (At.got (At.refl.comp Nod.a_size)) rfl ?_
                        refine o_take rfl rfl rfl ?_
                        refine o_T (y_neq rfl rfl) rfl ?_
                        refine o_T (y_pickF rfl rfl) rfl ?_
                        refine o_T (y_move rfl) rfl ?_
                        refine o_split 142 rfl (fun h18 => ?_) (fun h18 => ?_)
                        · skip
                          refine o_pass rfl rfl rfl rfl rfl ?_
                          refine o_pass rfl rfl rfl rfl rfl ?_
                          refine o_pass rfl rfl rfl rfl rfl ?_
                          refine o_T (y_pickT rfl rfl) rfl ?_
                          refine o_nil1 146 rfl rfl ?_
                          refine ⟨_, _, ⟨rfl, rfl⟩, ⟨by first | rfl | exact gtb rfl (by simp only [h15, h16, h17, h18, Bool.true_and, Bool.false_and, Bool.true_or, Bool.false_or, Bool.and_true, Bool.and_false, Bool.or_true, Bool.or_false, Bool.not_true, Bool.not_false]), trivial⟩, ⟨rfl, rfl⟩, _, (s_take (s_take (s_take (s_take s_nil))))⟩
                        · skip
                          refine o_take rfl rfl rfl ?_
                          refine o_T (y_fa fl_181_7 rfl) rfl ?_
                          refine o_take rfl rfl rfl ?_
                          refine o_ld one_3 rfl m0 (At.got (At.refl.comp Nod.a_hash)) rfl ?_
                          refine o_take rfl rfl rfl ?_
                          refine o_T (y_neq rfl rfl) rfl ?_
                          refine o_T (y_pickF rfl rfl) rfl ?_
                          refine o_nil1 146 rfl rfl ?_
                          refine ⟨_, _, ⟨rfl, rfl⟩, ⟨by first | rfl | exact gtb rfl (by simp only [h15, h16, h17, h18, Bool.true_and, Bool.false_and, Bool.true_or, Bool.false_or, Bool.and_true, Bool.and_false, Bool.or_true, Bool.or_false, Bool.not_true, Bool.not_false]), trivial⟩, ⟨rfl, rfl⟩, _, (s_take (s_take (s_take (s_take s_nil))))⟩
                · rintro sh G ⟨rfl, rfl⟩
                  obtain ⟨z8, hj2, hm⟩ := bd1 hm
                  refine c_joinP (n := 1) (fun sh G => sh = [] ∧ G = [[(b2, .cells (Tally.enc z8).toArray 217 (0, 0))]]) (s_get (ks k0) (s_take (s_take (s_take s_nil)))) (.s .z) (fun _ _ h => h) ?_ ?_
                  · have hm := hj2
                    refine c_cond rfl (fun h19 => ?_) (fun h19 => ?_)
                    · have hm := cd_t h19 hm
                      refine c_region ?_
                      refine o_T (y_move rfl) rfl ?_
                      refine o_T (y_nilck rfl) rfl ?_
                      refine o_T (y_fa fl_217_2 rfl) rfl ?_
                      obtain ⟨z9, hn5, hm⟩ := nm_s hm
                      refine o_stN one_4 rfl rfl rfl (Upd.z Tally.u_bad) (rs r0) (show (Tally.enc z9) = _ from by subst hn5; rfl) ?_
                      refine o_nil0 rfl ?_
                      obtain rfl := p1 hm
                      exact ⟨_, _, ⟨rfl, rfl⟩, trivial, ⟨rfl, rfl⟩, _, (s_get (ks k0) (s_take (s_take (s_take s_nil))))⟩
                    · have hm := cd_f h19 hm
                      refine c_skip ?_
                      obtain rfl := p1 hm
                      exact ⟨_, _, ⟨rfl, rfl⟩, trivial, ⟨rfl, rfl⟩, _, (s_get (ks k0) (s_take (s_take (s_take s_nil))))⟩
                  · rintro sh G ⟨rfl, rfl⟩
                    refine c_region ?_
                    refine o_T (y_move rfl) rfl ?_
                    refine o_T (y_move rfl) rfl ?_
                    refine o_T (y_move rfl) rfl ?_
                    refine o_T (y_fa fl_181_0 rfl) rfl ?_
                    refine o_ld one_9 rfl (ms m0) (At.got (At.refl.comp Nod.a_name)) rfl ?_
                    obtain ⟨s2, hx8, hm⟩ := bd hm
                    refine o_T (y_sadd rfl rfl hx8) rfl ?_
                    obtain ⟨s3, hx9, hm⟩ := bd hm
                    refine o_T (y_sadd rfl rfl hx9) rfl ?_
                    refine o_T (y_move rfl) rfl ?_
                    refine o_T (y_sub rfl rfl rfl) rfl ?_
                    refine o_T (y_move rfl) rfl ?_
                    obtain ⟨z10, hx10, hm⟩ := bd1 hm
                    refine o_callC en_200 rfl (s_get (ks (ks k0)) (s_take s_nil)) (ih hx10) rfl (fun u5 S5 hR5 => ?_)
                    obtain ⟨rfl, rfl⟩ := hR5
                    refine o_rest ?_
                    refine o_nil0 rfl ?_
                    refine c_region ?_
                    refine o_T (y_fa fl_181_2 rfl) rfl ?_
                    refine o_ld one_3 rfl (ms (ms m0)) (At.got (At.refl.comp Nod.a_nxt)) rfl ?_
                    refine o_L (y_assign rfl) rfl rfl ?_
                    refine o_nil0 rfl ?_
                    refine c_region ?_
                    refine o_T (y_move rfl) rfl ?_
                    refine o_T (y_add rfl rfl rfl) rfl ?_
                    refine o_L (y_assign rfl) rfl rfl ?_
                    refine o_nil0 rfl ?_
                    exact ⟨mm1, Nat.lt_succ_self _, _, _, ⟨_, _, _, _, rfl, rfl, hm⟩, ⟨rfl, rfl, rfl, trivial⟩, ⟨rfl, rfl⟩, _, (s_get (ks k0) (s_take (s_skip (s_take s_nil))))⟩
      · have hm := cd_f h3 hm
        refine c_exit ?_
        have hm := fl_nx hm hF2
        subst hF1
        obtain rfl := p1 hm
        refine fun aX wX heX hsX => ret0 Tryz.results200 (s_get (ks k0) (s_take (s_take s_nil))) ?_
        exact ⟨rfl, rfl⟩
end Go.Proofs.Qxb6500350aGreat
