/- MADE BY PROGRAM (tools350/mir.py): mirror and walk. -/
import Derived.Test.Qxb6500350aGreatF2
import Derived.Test.Qxb6500350aGreatT190
import Derived.Test.Qxb6500350aGreatT302
import Derived.Test.Qxb6500350aGreatT313
set_option linter.unusedVariables false
set_option linter.unusedSimpArgs false
set_option maxRecDepth 20000
set_option maxHeartbeats 4000000
namespace Go.Proofs.Qxb6500350aGreat
open Go.Eng

/- (*objects.Store).Commit -/
def m285_w1 (n : Nat) (s : Store) (mm : Nat) : Int → (List UInt8) → Option (Int × (List UInt8)) := it2 (fun lp1 c2 l3 =>
cond (decide (c2 ≤ 48)) (
ob1 (m190 n s c2) fun c4 =>
cond c4 (
Option.bind (ckA c2 49) fun _ =>
Option.bind (ckA c2 (l3.length : Int)) fun _ =>
Option.bind (stL l3 c2 (u8 ((s.tab c2).first))) fun l5 =>
lp1 (wi (c2 + 1)) l5) (
lp1 (wi (c2 + 1)) l3)) (
some (c2, l3))) mm
def m285_w2 (n : Nat) (z1 : Dev) (mm : Nat) : Int → Store → Option (Int × Store) := it2 (fun lp2 c6 z2 =>
cond (decide (c6 ≤ 48)) (
Option.bind (ckA c6 49) fun _ =>
cond (decide ((z2.tab c6).state = 1)) (
Option.bind (ckA c6 49) fun _ =>
nm ({ z2 with tab := (upI z2.tab c6 { (z2.tab c6) with state := 2 }) } : Store) fun z4 =>
lp2 (wi (c6 + 1)) z4) (
Option.bind (ckA c6 49) fun _ =>
cond (decide ((z2.tab c6).state = 3)) (
ob1 (m313 n z2 z1 c6) fun z5 =>
lp2 (wi (c6 + 1)) z5) (
lp2 (wi (c6 + 1)) z2))) (
some (c6, z2))) mm
def m285 (n : Nat) (s : Store) (d : Dev) (root : Int) : Option (Int × Store × Dev) :=
flow (cond (decide (¬ (root = 0))) (
ob1 (m190 n s root) fun c1 =>
cond (!c1) (
Option.bind (some (6, s, d)) fun q1 => some (.ret q1)) (
some (.nx ()))) (
some (.nx ()))) some (fun _ =>
Option.bind (mkL 64 64 (0 : UInt8)) fun l1 =>
Option.bind (ckA 0 (l1.length : Int)) fun _ =>
Option.bind (stL l1 0 (u8 root)) fun l2 =>
ob2 (m285_w1 n s n 1 l2) fun c3 l4 =>
ob2 (m302 n d 0 l4) fun c5 z1 =>
ob2 (m285_w2 n z1 n 1 s) fun c7 z3 =>
nm ({ z3 with root := root } : Store) fun z6 =>
some (0, z6, z1))
theorem t285 {n : Nat} {C : List Chunk} {rc1 : Int} {rz1 : Store} {rz2 : Dev} {b1 : Nat} {s : Store} {b2 : Nat} {d : Dev} {v1 : Value} {g1 : List Chunk} {v2 : Value} {g2 : List Chunk} {v3 : Value} {g3 : List Chunk} {v4 : Value} {g4 : List Chunk} {root : Int} (ho1 : Own rByte v1 d.blk g1) (ho2 : Own rByte v2 d.base g2) (ho3 : Own rInt v3 d.at_ g3) (ho4 : Own rByte v4 d.data g4)  (hm : m285 n s d root = some (rc1, rz1, rz2)) : Trip Tryz.prog 285 #[.pointer (some ⟨b1, 0, none⟩), .int .i64 root] ([[(b1, .cells (Store.enc (.pointer (some ⟨b2, 0, none⟩)) s).toArray 126 (0, 0))], [(b2, .cells (Dev.enc (v1) (v2) (v3) (v4) d).toArray 85 (0, 0))], g1, g2, g3, g4] ++ [C]) (fun u S' => ∃ (ev1 : Value), ∃ (eg1 : List Chunk), ∃ (ev2 : Value), ∃ (eg2 : List Chunk), ∃ (ev3 : Value), ∃ (eg3 : List Chunk), ∃ (ev4 : Value), ∃ (eg4 : List Chunk), .int .i64 rc1 = u ∧ S' = [[(b1, .cells (Store.enc (.pointer (some ⟨b2, 0, none⟩)) rz1).toArray 126 (0, 0))], [(b2, .cells (Dev.enc (ev1) (ev2) (ev3) (ev4) rz2).toArray 85 (0, 0))], eg1, eg2, eg3, eg4] ++ [C] ∧ Own rByte ev1 rz2.blk eg1 ∧ Own rByte ev2 rz2.base eg2 ∧ Own rInt ev3 rz2.at_ eg3 ∧ Own rByte ev4 rz2.data eg4) := by
  refine fn_entry (args := [.pointer (some ⟨b1, 0, none⟩), .int .i64 root]) Tryz.func285 rfl Tryz.ntmps285 rfl (fun w0 => ?_)
  refine c_seq ?_
  refine c_region ?_
  refine o_L (y_assign rfl) rfl rfl ?_
  refine o_nil0 rfl ?_
  refine c_seq ?_
  refine c_seq ?_
  refine c_region ?_
  refine o_T (y_move rfl) rfl ?_
  refine o_T (y_neq rfl rfl) rfl ?_
  refine o_nil1 9 rfl rfl ?_
  obtain ⟨f1, F1, hF1, hj1, hF2⟩ := fl2 hm
  refine c_joinP (n := 0) (fun sh G => sh = [] ∧ G = [] ∧ F1 () = some (rc1, rz1, rz2)) (s_take (s_take (s_take (s_take (s_take (s_take (s_take s_nil))))))) .z (fun _ _ h => h) ?_ ?_
  · have hm := hj1
    refine c_cond rfl (fun h1 => ?_) (fun h1 => ?_)
    · have hm := cd_t h1 hm
      refine c_seq ?_
      refine c_region ?_
      refine o_T (y_move rfl) rfl ?_
      refine o_T (y_move rfl) rfl ?_
      obtain ⟨c1, hx1, hm⟩ := bd1 hm
      refine o_callC en_190 rfl (s_take s_nil) (t190 hx1) rfl (fun u1 S1 hR1 => ?_)
      obtain ⟨rfl, rfl⟩ := hR1
      refine o_rest ?_
      refine o_T (y_not rfl) rfl ?_
      refine o_nil1 13 rfl rfl ?_
      refine c_cond rfl (fun h2 => ?_) (fun h2 => ?_)
      · have hm := cd_t h2 hm
        refine c_seq ?_
        refine c_region ?_
        refine o_L (y_assign rfl) rfl rfl ?_
        refine o_nil0 rfl ?_
        refine c_ret ?_
        obtain ⟨q1, hq1, hm⟩ := bd hm
        have hm := fl_ret hm hF2
        have hm := hq1.trans hm
        obtain ⟨rfl, rfl, rfl⟩ := pr3 hm
        refine fun aX wX heX hsX => ret1 Tryz.results285 heX rfl (s_take (s_take (s_take (s_take (s_take (s_take (s_take s_nil))))))) ?_
        exact ⟨v1, _, v2, _, v3, _, v4, _, rfl, rfl, ho1, ho2, ho3, ho4⟩
      · have hm := cd_f h2 hm
        refine c_skip ?_
        have hm := fl_nx hm hF2
        exact ⟨_, _, ⟨rfl, rfl, hm⟩, trivial, ⟨rfl, rfl⟩, _, (s_take (s_take (s_take (s_take (s_take (s_take (s_take s_nil)))))))⟩
    · have hm := cd_f h1 hm
      refine c_skip ?_
      have hm := fl_nx hm hF2
      exact ⟨_, _, ⟨rfl, rfl, hm⟩, trivial, ⟨rfl, rfl⟩, _, (s_take (s_take (s_take (s_take (s_take (s_take (s_take s_nil)))))))⟩
  · rintro sh G ⟨rfl, rfl, hm⟩
    subst hF1
    refine c_seq ?_
    refine c_region ?_
    obtain ⟨l1, hx2, hm⟩ := bd hm
    refine o_mkR (R := rByte) (a := 0) sz_81 rfl rfl rfl rfl rfl hx2 rfl (fun v5 g5 ho5 => ?_)
    refine o_L (y_assign rfl) rfl rfl ?_
    refine o_nil0 rfl ?_
    refine c_seq ?_
    refine c_region ?_
    refine o_T (y_move rfl) rfl ?_
    refine o_T (y_move rfl) rfl ?_
    refine o_T (y_conv Tryz.underlying3 Tryz.underlying5 rfl (u8_eq _)) rfl ?_
    obtain ⟨_, hi1, hm⟩ := bd hm
    have hi1 := ckA_some hi1
    obtain ⟨b3, cp1, hv1, hy1⟩ := ho5.ix hi1
    refine o_T (hy1 sl_81 rfl rfl rfl) rfl ?_
    obtain ⟨l2, hx4, hm⟩ := bd hm
    refine o_stO1 one_5 rfl rfl rfl rfl ho5 hv1 hx4 (fun _ => q0) (fun g6 ho6 => ?_)
    refine o_nil0 rfl ?_
    refine c_seq ?_
    refine c_seq ?_
    refine c_region ?_
    refine o_L (y_assign rfl) rfl rfl ?_
    refine o_nil0 rfl ?_
    obtain ⟨c3, l4, hj2, hm⟩ := bd2 hm
    refine c_joinP (n := 1) (fun sh G => ∃ (g8 : List Chunk), sh = [(6, .int .i64 c3)] ∧ G = [g8] ∧ Own rByte v5 l4 g8) (s_take (s_take (s_take (s_take (s_take (s_take (s_take (s_take s_nil)))))))) (.s .z) (fun _ _ h => h) ?_ ?_
    · skip
      refine c_block ?_
      refine c_loopP (n := 1) (fun mm sh G => ∃ (c2 : Int), ∃ (l3 : List UInt8), ∃ (g7 : List Chunk), sh = [(6, .int .i64 c2)] ∧ G = [g7] ∧ m285_w1 n s mm c2 l3 = some (c3, l4) ∧ Own rByte v5 l3 g7) n (s_take (s_take (s_take (s_take (s_take (s_take (s_take (s_take s_nil)))))))) (.s .z) ⟨_, _, ⟨_, _, _, rfl, rfl, hj2, ho6⟩, ⟨rfl, trivial⟩, _, (s_take (s_take (s_take (s_take (s_take (s_take (s_take (s_take s_nil))))))))⟩ ?_
      rintro mm sh G ⟨c2, l3, g7, rfl, rfl, hm, ho7⟩
      obtain ⟨mm1, rfl, hm⟩ := it2_s hm
      refine c_seq ?_
      refine c_seq ?_
      refine c_region ?_
      refine o_T (y_move rfl) rfl ?_
      refine o_T (y_leq rfl rfl) rfl ?_
      refine o_nil1 20 rfl rfl ?_
      refine c_cond rfl (fun h3 => ?_) (fun h3 => ?_)
      · have hm := cd_t h3 hm
        refine c_skip ?_
        refine c_seq ?_
        refine c_block ?_
        refine c_seq ?_
        refine c_region ?_
        refine o_T (y_move rfl) rfl ?_
        refine o_T (y_move rfl) rfl ?_
        obtain ⟨c4, hx5, hm⟩ := bd1 hm
        refine o_callC en_190 rfl (s_skip (s_take s_nil)) (t190 hx5) rfl (fun u2 S2 hR2 => ?_)
        obtain ⟨rfl, rfl⟩ := hR2
        refine o_rest ?_
        refine o_nil1 25 rfl rfl ?_
        refine c_cond rfl (fun h4 => ?_) (fun h4 => ?_)
        · have hm := cd_t h4 hm
          refine c_region ?_
          refine o_T (y_move rfl) rfl ?_
          refine o_T (y_move rfl) rfl ?_
          refine o_T (y_move rfl) rfl ?_
          refine o_T (y_move rfl) rfl ?_
          refine o_T (y_nilck rfl) rfl ?_
          refine o_T (y_fa fl_126_1 rfl) rfl ?_
          obtain ⟨_, hx6, hm⟩ := bd hm
          have hx6 := ckA_some hx6
          refine o_T (y_ia ar_121 rfl rfl hx6.1 hx6.2) rfl ?_
          refine o_T (y_fa fl_120_3 rfl) rfl ?_
          refine o_ld one_3 rfl m0 (At.got (((At.refl.comp Store.a_tab).comp (encN_a Entr.len _ _ hx6.1 _ hx6.2)).comp Entr.a_first)) rfl ?_
          refine o_T (y_conv Tryz.underlying3 Tryz.underlying5 rfl (u8_eq _)) rfl ?_
          obtain ⟨_, hi2, hm⟩ := bd hm
          have hi2 := ckA_some hi2
          obtain ⟨b4, cp2, hv2, hy2⟩ := ho7.ix hi2
          refine o_T (hy2 sl_81 rfl rfl rfl) rfl ?_
          obtain ⟨l5, hx8, hm⟩ := bd hm
          refine o_stO1 one_5 rfl rfl rfl rfl ho7 hv2 hx8 (fun _ => (qs q0)) (fun g9 ho9 => ?_)
          refine o_nil0 rfl ?_
          refine c_region ?_
          refine o_T (y_move rfl) rfl ?_
          refine o_T (y_add rfl rfl rfl) rfl ?_
          refine o_L (y_assign rfl) rfl rfl ?_
          refine o_nil0 rfl ?_
          exact ⟨mm1, Nat.lt_succ_self _, _, _, ⟨_, _, _, rfl, rfl, hm, ho9⟩, ⟨rfl, trivial⟩, ⟨rfl, rfl⟩, _, (s_get (ks k0) (s_take (s_take (s_take (s_take (s_take (s_take (s_take s_nil))))))))⟩
        · have hm := cd_f h4 hm
          refine c_skip ?_
          refine c_region ?_
          refine o_T (y_move rfl) rfl ?_
          refine o_T (y_add rfl rfl rfl) rfl ?_
          refine o_L (y_assign rfl) rfl rfl ?_
          refine o_nil0 rfl ?_
          exact ⟨mm1, Nat.lt_succ_self _, _, _, ⟨_, _, _, rfl, rfl, hm, ho7⟩, ⟨rfl, trivial⟩, ⟨rfl, rfl⟩, _, (s_get (ks k0) (s_take (s_take (s_take (s_take (s_take (s_take (s_take s_nil))))))))⟩
      · have hm := cd_f h3 hm
        refine c_exit ?_
        obtain ⟨rfl, rfl⟩ := pr2 hm
        exact ⟨_, _, ⟨_, rfl, rfl, ho7⟩, ⟨rfl, trivial⟩, ⟨rfl, rfl⟩, _, (s_take (s_take (s_take (s_take (s_take (s_take (s_take (s_take s_nil))))))))⟩
    · rintro sh G ⟨g8, rfl, rfl, ho8⟩
      refine c_seq ?_
      refine c_region ?_
      refine o_T (y_move rfl) rfl ?_
      refine o_T (y_nilck rfl) rfl ?_
      refine o_T (y_fa fl_126_0 rfl) rfl ?_
      refine o_ld one_27 rfl (ms m0) (At.got (At.refl.comp Store.a_d)) rfl ?_
      refine o_T (y_move rfl) rfl ?_
      obtain ⟨c5, z1, hx9, hm⟩ := bd2 hm
      refine o_callC en_302 rfl (s_skip (s_skip (s_take (s_take (s_take (s_take (s_take s_nil))))))) (t302 ho1 ho2 ho3 ho4 (ho8.rd.mono (fun _ hz => (mg hz))) hx9) rfl (fun u3 S3 hR3 => ?_)
      obtain ⟨v8, g10, v9, g11, v10, g12, v11, g13, rfl, rfl, ho10, ho11, ho12, ho13⟩ := hR3
      refine o_rest ?_
      refine o_nil0 rfl ?_
      refine c_seq ?_
      refine c_seq ?_
      refine c_region ?_
      refine o_L (y_assign rfl) rfl rfl ?_
      refine o_nil0 rfl ?_
      obtain ⟨c7, z3, hj3, hm⟩ := bd2 hm
      refine c_joinP (n := 1) (fun sh G => sh = [(7, .int .i64 c7)] ∧ G = [[(b1, .cells (Store.enc (.pointer (some ⟨b2, 0, none⟩)) z3).toArray 126 (0, 0))]]) (s_get (ks (ks (ks (ks (ks (ks k0)))))) (s_take (s_take (s_take (s_take (s_take (s_skip (s_take s_nil)))))))) (.s .z) (fun _ _ h => h) ?_ ?_
      · skip
        refine c_block ?_
        refine c_loopP (n := 1) (fun mm sh G => ∃ (c6 : Int), ∃ (z2 : Store), sh = [(7, .int .i64 c6)] ∧ G = [[(b1, .cells (Store.enc (.pointer (some ⟨b2, 0, none⟩)) z2).toArray 126 (0, 0))]] ∧ m285_w2 n z1 mm c6 z2 = some (c7, z3)) n (s_get (ks (ks (ks (ks (ks (ks k0)))))) (s_take (s_take (s_take (s_take (s_take (s_skip (s_take s_nil)))))))) (.s .z) ⟨_, _, ⟨_, _, rfl, rfl, hj3⟩, ⟨rfl, trivial⟩, _, (s_get (ks (ks (ks (ks (ks (ks k0)))))) (s_take (s_take (s_take (s_take (s_take (s_skip (s_take s_nil))))))))⟩ ?_
        rintro mm sh G ⟨c6, z2, rfl, rfl, hm⟩
        obtain ⟨mm2, rfl, hm⟩ := it2_s hm
        refine c_seq ?_
        refine c_seq ?_
        refine c_region ?_
        refine o_T (y_move rfl) rfl ?_
        refine o_T (y_leq rfl rfl) rfl ?_
        refine o_nil1 44 rfl rfl ?_
        refine c_cond rfl (fun h5 => ?_) (fun h5 => ?_)
        · have hm := cd_t h5 hm
          refine c_skip ?_
          refine c_seq ?_
          refine c_block ?_
          refine c_seq ?_
          refine c_region ?_
          refine o_T (y_move rfl) rfl ?_
          refine o_T (y_move rfl) rfl ?_
          refine o_T (y_nilck rfl) rfl ?_
          refine o_T (y_fa fl_126_1 rfl) rfl ?_
          obtain ⟨_, hx10, hm⟩ := bd hm
          have hx10 := ckA_some hx10
          refine o_T (y_ia ar_121 rfl rfl hx10.1 hx10.2) rfl ?_
          refine o_T (y_fa fl_120_0 rfl) rfl ?_
          refine o_ld one_3 rfl m0 (At.got (((At.refl.comp Store.a_tab).comp (encN_a Entr.len _ _ hx10.1 _ hx10.2)).comp Entr.a_state)) rfl ?_
          refine o_T (y_eql rfl rfl) rfl ?_
          refine o_nil1 54 rfl rfl ?_
          refine c_cond rfl (fun h6 => ?_) (fun h6 => ?_)
          · have hm := cd_t h6 hm
            refine c_region ?_
            refine o_T (y_move rfl) rfl ?_
            refine o_T (y_move rfl) rfl ?_
            refine o_T (y_nilck rfl) rfl ?_
            refine o_T (y_fa fl_126_1 rfl) rfl ?_
            obtain ⟨_, hx11, hm⟩ := bd hm
            have hx11 := ckA_some hx11
            refine o_T (y_ia ar_121 rfl rfl hx11.1 hx11.2) rfl ?_
            refine o_T (y_fa fl_120_0 rfl) rfl ?_
            obtain ⟨z4, hn1, hm⟩ := nm_s hm
            refine o_stN one_3 rfl rfl rfl (((Upd.z Store.u_tab).comp (encN_u Entr.len _ _ _ hx11.1 _ hx11.2)).comp Entr.u_state) r0 (show (Store.enc (.pointer (some ⟨b2, 0, none⟩)) z4) = _ from by subst hn1; rfl) ?_
            refine o_nil0 rfl ?_
            refine c_region ?_
            refine o_T (y_move rfl) rfl ?_
            refine o_T (y_add rfl rfl rfl) rfl ?_
            refine o_L (y_assign rfl) rfl rfl ?_
            refine o_nil0 rfl ?_
            exact ⟨mm2, Nat.lt_succ_self _, _, _, ⟨_, _, rfl, rfl, hm⟩, ⟨rfl, trivial⟩, ⟨rfl, rfl⟩, _, (s_take (s_take (s_take (s_take (s_take (s_take (s_take s_nil)))))))⟩
          · have hm := cd_f h6 hm
            refine c_seq ?_
            refine c_region ?_
            refine o_T (y_move rfl) rfl ?_
            refine o_T (y_move rfl) rfl ?_
            refine o_T (y_nilck rfl) rfl ?_
            refine o_T (y_fa fl_126_1 rfl) rfl ?_
            obtain ⟨_, hx12, hm⟩ := bd hm
            have hx12 := ckA_some hx12
            refine o_T (y_ia ar_121 rfl rfl hx12.1 hx12.2) rfl ?_
            refine o_T (y_fa fl_120_0 rfl) rfl ?_
            refine o_ld one_3 rfl m0 (At.got (((At.refl.comp Store.a_tab).comp (encN_a Entr.len _ _ hx12.1 _ hx12.2)).comp Entr.a_state)) rfl ?_
            refine o_T (y_eql rfl rfl) rfl ?_
            refine o_nil1 68 rfl rfl ?_
            refine c_cond rfl (fun h7 => ?_) (fun h7 => ?_)
            · have hm := cd_t h7 hm
              refine c_region ?_
              refine o_T (y_move rfl) rfl ?_
              refine o_T (y_move rfl) rfl ?_
              obtain ⟨z5, hx13, hm⟩ := bd1 hm
              refine o_callC en_313 rfl (s_take (s_take (s_take (s_take (s_take (s_take s_nil)))))) (t313 ho10 ho11 ho12 ho13 hx13) rfl (fun u4 S4 hR4 => ?_)
              obtain ⟨rfl, rfl⟩ := hR4
              refine o_rest ?_
              refine o_nil0 rfl ?_
              refine c_region ?_
              refine o_T (y_move rfl) rfl ?_
              refine o_T (y_add rfl rfl rfl) rfl ?_
              refine o_L (y_assign rfl) rfl rfl ?_
              refine o_nil0 rfl ?_
              exact ⟨mm2, Nat.lt_succ_self _, _, _, ⟨_, _, rfl, rfl, hm⟩, ⟨rfl, trivial⟩, ⟨rfl, rfl⟩, _, (s_take (s_take (s_take (s_take (s_take (s_take (s_take s_nil)))))))⟩
            · have hm := cd_f h7 hm
              refine c_skip ?_
              refine c_region ?_
              refine o_T (y_move rfl) rfl ?_
              refine o_T (y_add rfl rfl rfl) rfl ?_
              refine o_L (y_assign rfl) rfl rfl ?_
              refine o_nil0 rfl ?_
              exact ⟨mm2, Nat.lt_succ_self _, _, _, ⟨_, _, rfl, rfl, hm⟩, ⟨rfl, trivial⟩, ⟨rfl, rfl⟩, _, (s_take (s_take (s_take (s_take (s_take (s_take (s_take s_nil)))))))⟩
        · have hm := cd_f h5 hm
          refine c_exit ?_
          obtain ⟨rfl, rfl⟩ := pr2 hm
          exact ⟨_, _, ⟨rfl, rfl⟩, ⟨rfl, trivial⟩, ⟨rfl, rfl⟩, _, (s_take (s_take (s_take (s_take (s_take (s_take (s_take s_nil)))))))⟩
      · rintro sh G ⟨rfl, rfl⟩
        refine c_seq ?_
        refine c_region ?_
        refine o_T (y_move rfl) rfl ?_
        refine o_T (y_move rfl) rfl ?_
        refine o_T (y_nilck rfl) rfl ?_
        refine o_T (y_fa fl_126_5 rfl) rfl ?_
        obtain ⟨z6, hn2, hm⟩ := nm_s hm
        refine o_stN one_3 rfl rfl rfl (Upd.z Store.u_root) r0 (show (Store.enc (.pointer (some ⟨b2, 0, none⟩)) z6) = _ from by subst hn2; rfl) ?_
        refine o_nil0 rfl ?_
        refine c_seq ?_
        refine c_region ?_
        refine o_L (y_assign rfl) rfl rfl ?_
        refine o_nil0 rfl ?_
        refine c_ret ?_
        obtain ⟨rfl, rfl, rfl⟩ := pr3 hm
        refine fun aX wX heX hsX => ret1 Tryz.results285 heX rfl (s_take (s_take (s_take (s_take (s_take (s_take (s_take s_nil))))))) ?_
        exact ⟨v8, _, v9, _, v10, _, v11, _, rfl, rfl, ho10, ho11, ho12, ho13⟩
end Go.Proofs.Qxb6500350aGreat
