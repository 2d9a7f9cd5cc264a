/- MADE BY PROGRAM (tools350/mir.py): mirror and walk. -/
import Derived.Test.Qxb6500350aGreatF2
import Derived.Test.Qxb6500350aGreatT194
import Derived.Test.Qxb6500350aGreatT195
set_option linter.unusedVariables false
set_option linter.unusedSimpArgs false
set_option maxRecDepth 20000
set_option maxHeartbeats 4000000
namespace Go.Proofs.Qxb6500350aGreat
open Go.Eng

/- (*tree.Trees).mark -/
def m312_w1 (n : Nat) (t : Trees) (s : Store) (d : Dev) (id : Int) (depth : Int) (l3 : List Line) (go : Trees → Store → Dev → Int → Int → ((List Bool)) → Option ((List Bool))) (mm : Nat) : Int → (List Bool) → Option (Int × (List Bool)) := it2 (fun lp1 c4 l4 =>
cond (decide (c4 < (l3.length : Int))) (
Option.bind (ixL l3 c4) fun x3 =>
cond x3.dir (
Option.bind (ixL l3 c4) fun x4 =>
ob1 (go t s d x4.id (wi (depth - 1)) l4) fun l6 =>
lp1 (wi (c4 + 1)) l6) (
Option.bind (ixL l3 c4) fun x5 =>
Option.bind (ckA x5.id (l4.length : Int)) fun _ =>
Option.bind (stL l4 x5.id true) fun l7 =>
lp1 (wi (c4 + 1)) l7)) (
some (c4, l4))) mm
def m312 : Nat → Trees → Store → Dev → Int → Int → ((List Bool)) → Option ((List Bool)) := rc6 fun n go t s d id depth seen =>
ob1 (Option.bind (ixL seen id) fun x1 =>
cond x1 (some (true)) (some ((decide (depth ≤ 0))))) fun c1 =>
cond c1 (
some seen) (
Option.bind (ckA id (seen.length : Int)) fun _ =>
Option.bind (stL seen id true) fun l1 =>
ob3 (m194 n s d id) fun c2 l2 c3 =>
ob1 (m195 n l2) fun l3 =>
ob2 (m312_w1 n t s d id depth l3 go n 0 l1) fun c5 l5 =>
some l5)
theorem t312 {n : Nat} {C : List Chunk} {rl1 : List Bool} {b1 : Nat} {t : Trees} {b2 : Nat} {s : Store} {b3 : Nat} {d : Dev} {v1 : Value} {g1 : List Chunk} {v2 : Value} {g2 : List Chunk} {v3 : Value} {g3 : List Chunk} {v4 : Value} {g4 : List Chunk} {id : Int} {depth : Int} {v5 : Value} {seen : (List Bool)} {g5 : List Chunk} (ho1 : Own rByte v1 d.blk g1) (ho2 : Own rByte v2 d.base g2) (ho3 : Own rInt v3 d.at_ g3) (ho4 : Own rByte v4 d.data g4) (ho5 : Own rBool v5 seen g5)  (hm : m312 n t s d id depth seen = some rl1) : Trip Tryz.prog 312 #[.pointer (some ⟨b1, 0, none⟩), .int .i64 id, .int .i64 depth, v5] ([[(b1, .cells (Trees.enc (.pointer (some ⟨b2, 0, none⟩)) t).toArray 169 (0, 0))], [(b2, .cells (Store.enc (.pointer (some ⟨b3, 0, none⟩)) s).toArray 126 (0, 0))], [(b3, .cells (Dev.enc (v1) (v2) (v3) (v4) d).toArray 85 (0, 0))], g1, g2, g3, g4, g5] ++ [C]) (fun u S' => ∃ (eg1 : List Chunk), .tuple #[] = u ∧ S' = [[(b1, .cells (Trees.enc (.pointer (some ⟨b2, 0, none⟩)) t).toArray 169 (0, 0))], [(b2, .cells (Store.enc (.pointer (some ⟨b3, 0, none⟩)) s).toArray 126 (0, 0))], [(b3, .cells (Dev.enc (v1) (v2) (v3) (v4) d).toArray 85 (0, 0))], g1, g2, g3, g4, eg1] ++ [C] ∧ Own rBool v5 rl1 eg1) := by
  induction n generalizing C b1 t b2 s b3 d v1 g1 v2 g2 v3 g3 v4 g4 id depth v5 seen g5 rl1 with
  | zero => cases hm
  | succ n ih =>
    replace hm := rc6_s hm
    refine fn_entry (args := [.pointer (some ⟨b1, 0, none⟩), .int .i64 id, .int .i64 depth, v5]) Tryz.func312 rfl Tryz.ntmps312 rfl (fun w0 => ?_)
    refine c_seq ?_
    refine c_seq ?_
    obtain ⟨c1, hj1, hm⟩ := bd1 hm
    refine c_joinP (n := 0) (fun sh G => sh = [(20, .bool c1)] ∧ G = []) Sel.all' .z (fun _ _ h => h) ?_ ?_
    · have hm := hj1
      refine c_region ?_
      refine o_T (y_move rfl) rfl ?_
      refine o_T (y_move rfl) rfl ?_
      obtain ⟨x1, hx1, hm⟩ := bd hm
      obtain ⟨b4, w1, cs1, y1, z1, vs1, hc1, ha1, hr1, hy1⟩ := ho5.rd.ix hx1
      obtain rfl : vs1 = (encB x1) := hr1
      refine o_T (hy1 sl_241 rfl rfl rfl) rfl ?_
      refine o_ld one_4 rfl (ms (ms (ms (ms (ms (ms (ms (mg hc1)))))))) (At.getA (ha1)) rfl ?_
      refine o_T (y_move rfl) rfl ?_
      refine o_split 17 rfl (fun h1 => ?_) (fun h1 => ?_)
      · have hm := cd_t h1 hm
        refine o_pass rfl rfl rfl rfl rfl ?_
        refine o_pass rfl rfl rfl rfl rfl ?_
        refine o_T (y_pickT rfl rfl) rfl ?_
        refine o_nil1 20 rfl rfl ?_
        obtain rfl := p1 hm
        exact ⟨_, _, ⟨rfl, rfl⟩, ⟨rfl, trivial⟩, ⟨rfl, rfl⟩, _, (s_take (s_take (s_take (s_take (s_take (s_take (s_take (s_take (s_take s_nil)))))))))⟩
      · have hm := cd_f h1 hm
        refine o_take rfl rfl rfl ?_
        refine o_T (y_move rfl) rfl ?_
        refine o_take rfl rfl rfl ?_
        refine o_T (y_leq rfl rfl) rfl ?_
        refine o_T (y_pickF rfl rfl) rfl ?_
        refine o_nil1 20 rfl rfl ?_
        obtain rfl := p1 hm
        exact ⟨_, _, ⟨rfl, rfl⟩, ⟨rfl, trivial⟩, ⟨rfl, rfl⟩, _, (s_take (s_take (s_take (s_take (s_take (s_take (s_take (s_take (s_take s_nil)))))))))⟩
    · rintro sh G ⟨rfl, rfl⟩
      refine c_cond rfl (fun h2 => ?_) (fun h2 => ?_)
      · have hm := cd_t h2 hm
        refine c_ret ?_
        obtain rfl := p1 hm
        refine fun aX wX heX hsX => ret0 Tryz.results312 (s_take (s_take (s_take (s_take (s_take (s_take (s_take (s_take (s_take s_nil))))))))) ?_
        exact ⟨_, rfl, rfl, ho5⟩
      · have hm := cd_f h2 hm
        refine c_skip ?_
        refine c_seq ?_
        refine c_region ?_
        refine o_T (y_move rfl) rfl ?_
        refine o_T (y_move rfl) rfl ?_
        obtain ⟨_, hi1, hm⟩ := bd hm
        have hi1 := ckA_some hi1
        obtain ⟨b5, cp1, hv1, hy2⟩ := ho5.ix hi1
        refine o_T (hy2 sl_241 rfl rfl rfl) rfl ?_
        obtain ⟨l1, hx3, hm⟩ := bd hm
        refine o_stO1 one_4 rfl rfl rfl rfl ho5 hv1 hx3 (fun _ => (qs (qs (qs (qs (qs (qs (qs q0)))))))) (fun g6 ho6 => ?_)
        refine o_nil0 rfl ?_
        refine c_seq ?_
        refine c_region ?_
        refine o_T (y_move rfl) rfl ?_
        refine o_T (y_nilck rfl) rfl ?_
        refine o_T (y_fa fl_169_0 rfl) rfl ?_
        refine o_ld one_28 rfl m0 (At.got (At.refl.comp Trees.a_o)) rfl ?_
        refine o_T (y_move rfl) rfl ?_
        obtain ⟨c2, l2, c3, hx4, hm⟩ := bd3 hm
        refine o_callC en_194 rfl (s_skip (s_take (s_take (s_take (s_take (s_take (s_take s_nil))))))) (t194 ho1 ho2 ho3 ho4 hx4) rfl (fun u1 S1 hR1 => ?_)
        obtain ⟨v6, g7, rfl, rfl, ho7⟩ := hR1
        refine o_rest ?_
        refine o_T (y_move rfl) rfl ?_
        refine o_T (y_extract rfl rfl) rfl ?_
        refine o_T (y_extract rfl rfl) rfl ?_
        refine o_T (y_extract rfl rfl) rfl ?_
        refine o_L (y_assign rfl) rfl rfl ?_
        refine o_L (y_assign rfl) rfl rfl ?_
        refine o_L (y_assign rfl) rfl rfl ?_
        refine o_nil0 rfl ?_
        refine c_seq ?_
        refine c_region ?_
        refine o_T (y_move rfl) rfl ?_
        obtain ⟨l3, hx5, hm⟩ := bd1 hm
        refine o_callC en_195 rfl s_nil (t195 (ho7.rd.mono (fun _ hz => (ms (ms (ms (ms (ms (ms (mg hz))))))))) hx5) rfl (fun u2 S2 hR2 => ?_)
        obtain ⟨v7, g8, rfl, rfl, ho8⟩ := hR2
        refine o_rest ?_
        refine o_L (y_assign rfl) rfl rfl ?_
        refine o_nil0 rfl ?_
        refine c_seq ?_
        refine c_region ?_
        refine o_L (y_assign rfl) rfl rfl ?_
        refine o_nil0 rfl ?_
        obtain ⟨c5, l5, hj2, hm⟩ := bd2 hm
        have hk1 := hm
        refine c_block ?_
        refine c_loopP (n := 1) (fun mm sh G => ∃ (c4 : Int), ∃ (l4 : List Bool), ∃ (g9 : List Chunk), sh = [(12, .int .i64 c4)] ∧ G = [g9] ∧ m312_w1 n t s d id depth l3 (m312 n) mm c4 l4 = some (c5, l5) ∧ Own rBool v5 l4 g9) n (s_get (ks (ks (ks (ks (ks (ks (ks (ks (ks k0))))))))) (s_take (s_take (s_take (s_take (s_take (s_take (s_take (s_skip (s_take (s_take s_nil))))))))))) (.s .z) ⟨_, _, ⟨_, _, _, rfl, rfl, hj2, ho6⟩, ⟨rfl, trivial⟩, _, (s_get (ks (ks (ks (ks (ks (ks (ks (ks (ks k0))))))))) (s_take (s_take (s_take (s_take (s_take (s_take (s_take (s_skip (s_take (s_take s_nil)))))))))))⟩ ?_
        rintro mm sh G ⟨c4, l4, g9, rfl, rfl, hm, ho9⟩
        obtain ⟨mm1, rfl, hm⟩ := it2_s hm
        refine c_seq ?_
        refine c_seq ?_
        refine c_region ?_
        refine o_T (y_move rfl) rfl ?_
        refine o_T (y_move rfl) rfl ?_
        refine o_T (y_lenR ho8.rd Tryz.underlying209 rfl) rfl ?_
        refine o_T (y_lss rfl rfl) rfl ?_
        refine o_nil1 39 rfl rfl ?_
        refine c_cond rfl (fun h3 => ?_) (fun h3 => ?_)
        · have hm := cd_t h3 hm
          refine c_skip ?_
          refine c_seq ?_
          refine c_block ?_
          refine c_seq ?_
          refine c_region ?_
          refine o_T (y_move rfl) rfl ?_
          refine o_T (y_move rfl) rfl ?_
          obtain ⟨x3, hx6, hm⟩ := bd hm
          obtain ⟨b6, w2, cs2, y2, z2, vs2, hc2, ha2, hr2, hy3⟩ := ho8.rd.ix hx6
          obtain rfl : vs2 = Line.enc x3 := hr2
          refine o_T (hy3 sl_209 rfl rfl rfl) rfl ?_
          refine o_T (y_fa fl_213_0 rfl) rfl ?_
          refine o_ld one_4 rfl (ms (mg hc2)) (At.getA (ha2.comp Line.a_dir)) rfl ?_
          refine o_nil1 46 rfl rfl ?_
          refine c_cond rfl (fun h4 => ?_) (fun h4 => ?_)
          · have hm := cd_t h4 hm
            refine c_region ?_
            refine o_T (y_move rfl) rfl ?_
            refine o_T (y_move rfl) rfl ?_
            refine o_T (y_move rfl) rfl ?_
            obtain ⟨x4, hx7, hm⟩ := bd hm
            obtain ⟨b7, w3, cs3, y3, z3, vs3, hc3, ha3, hr3, hy4⟩ := ho8.rd.ix hx7
            obtain rfl : vs3 = Line.enc x4 := hr3
            refine o_T (hy4 sl_209 rfl rfl rfl) rfl ?_
            refine o_T (y_fa fl_213_2 rfl) rfl ?_
            refine o_ld one_3 rfl (ms (mg hc3)) (At.getA (ha3.comp Line.a_id)) rfl ?_
            refine o_T (y_move rfl) rfl ?_
            refine o_T (y_sub rfl rfl rfl) rfl ?_
            refine o_T (y_move rfl) rfl ?_
            obtain ⟨l6, hx8, hm⟩ := bd1 hm
            refine o_callC en_312 rfl (s_get (ks (ks (ks (ks (ks (ks (ks (ks k0)))))))) (s_get (ks (ks k0)) (s_get (ks (ks k0)) (s_get (ks (ks k0)) (s_get (ks (ks k0)) (s_get (ks (ks k0)) (s_get (ks (ks k0)) (s_take s_nil)))))))) (ih ho1 ho2 ho3 ho4 ho9 hx8) rfl (fun u3 S3 hR3 => ?_)
            obtain ⟨g11, rfl, rfl, ho11⟩ := hR3
            refine o_rest ?_
            refine o_nil0 rfl ?_
            refine c_region ?_
            refine o_T (y_move rfl) rfl ?_
            refine o_T (y_add rfl rfl rfl) rfl ?_
            refine o_L (y_assign rfl) rfl rfl ?_
            refine o_nil0 rfl ?_
            exact ⟨mm1, Nat.lt_succ_self _, _, _, ⟨_, _, _, rfl, rfl, hm, ho11⟩, ⟨rfl, trivial⟩, ⟨rfl, rfl⟩, _, (s_get (ks (ks (ks (ks (ks (ks (ks k0))))))) (s_get (ks (ks (ks (ks (ks (ks (ks k0))))))) (s_get (ks k0) (s_get (ks k0) (s_get (ks k0) (s_get (ks k0) (s_get (ks k0) (s_get (ks k0) (s_take (s_take s_nil))))))))))⟩
          · have hm := cd_f h4 hm
            refine c_region ?_
            refine o_T (y_move rfl) rfl ?_
            refine o_T (y_move rfl) rfl ?_
            refine o_T (y_move rfl) rfl ?_
            obtain ⟨x5, hx9, hm⟩ := bd hm
            obtain ⟨b8, w4, cs4, y4, z4, vs4, hc4, ha4, hr4, hy5⟩ := ho8.rd.ix hx9
            obtain rfl : vs4 = Line.enc x5 := hr4
            refine o_T (hy5 sl_209 rfl rfl rfl) rfl ?_
            refine o_T (y_fa fl_213_2 rfl) rfl ?_
            refine o_ld one_3 rfl (ms (mg hc4)) (At.getA (ha4.comp Line.a_id)) rfl ?_
            obtain ⟨_, hi2, hm⟩ := bd hm
            have hi2 := ckA_some hi2
            obtain ⟨b9, cp2, hv2, hy6⟩ := ho9.ix hi2
            refine o_T (hy6 sl_241 rfl rfl rfl) rfl ?_
            obtain ⟨l7, hx11, hm⟩ := bd hm
            refine o_stO1 one_4 rfl rfl rfl rfl ho9 hv2 hx11 (fun _ => q0) (fun g12 ho12 => ?_)
            refine o_nil0 rfl ?_
            refine c_region ?_
            refine o_T (y_move rfl) rfl ?_
            refine o_T (y_add rfl rfl rfl) rfl ?_
            refine o_L (y_assign rfl) rfl rfl ?_
            refine o_nil0 rfl ?_
            exact ⟨mm1, Nat.lt_succ_self _, _, _, ⟨_, _, _, rfl, rfl, hm, ho12⟩, ⟨rfl, trivial⟩, ⟨rfl, rfl⟩, _, (s_take (s_take (s_take (s_take (s_take (s_take (s_take (s_take (s_take (s_take s_nil))))))))))⟩
        · have hm := cd_f h3 hm
          refine c_exit ?_
          obtain ⟨rfl, rfl⟩ := pr2 hm
          have hm := hk1
          obtain rfl := p1 hm
          refine fun aX wX heX hsX => ret0 Tryz.results312 (s_get (ks (ks (ks (ks (ks (ks (ks (ks k0)))))))) (s_get (ks (ks k0)) (s_get (ks (ks k0)) (s_get (ks (ks k0)) (s_get (ks (ks k0)) (s_get (ks (ks k0)) (s_get (ks (ks k0)) (s_take (s_skip (s_take s_nil)))))))))) ?_
          exact ⟨_, rfl, rfl, ho9⟩
end Go.Proofs.Qxb6500350aGreat
