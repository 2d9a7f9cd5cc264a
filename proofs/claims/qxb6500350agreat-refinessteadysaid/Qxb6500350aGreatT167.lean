/- MADE BY PROGRAM (tools350/mir.py): mirror and walk. -/
import Derived.Test.Qxb6500350aGreatF2
import Derived.Test.Qxb6500350aGreatT194
import Derived.Test.Qxb6500350aGreatT245
set_option linter.unusedVariables false
set_option linter.unusedSimpArgs false
set_option maxRecDepth 20000
set_option maxHeartbeats 4000000
namespace Go.Proofs.Qxb6500350aGreat
open Go.Eng

/- (*tree.Trees).rebuild -/
def m167_w1 (n : Nat) (mm : Nat) : Int → Trees → Option (Int × Trees) := it2 (fun lp1 c1 z1 =>
cond (decide (c1 ≤ 48)) (
Option.bind (ckA c1 49) fun _ =>
nm ({ z1 with kind := (upI z1.kind c1 0) } : Trees) fun z3 =>
Option.bind (ckA c1 49) fun _ =>
nm ({ z3 with count := (upI z3.count c1 0) } : Trees) fun z4 =>
lp1 (wi (c1 + 1)) z4) (
some (c1, z1))) mm
def m167_w2 (n : Nat) (s : Store) (d : Dev) (mm : Nat) : Int → Trees → Option (Int × Trees) := it2 (fun lp2 c3 z5 =>
cond (decide (c3 ≤ 48)) (
ob3 (m194 n s d c3) fun c5 l1 c6 =>
cond (decide (c6 = 0)) (
Option.bind (ckA c3 49) fun _ =>
nm ({ z5 with kind := (upI z5.kind c3 c5) } : Trees) fun z7 =>
cond (decide (c5 = 2)) (
ob1 (m245 n z7 l1 1) fun z8 =>
lp2 (wi (c3 + 1)) z8) (
lp2 (wi (c3 + 1)) z7)) (
lp2 (wi (c3 + 1)) z5)) (
some (c3, z5))) mm
def m167 (n : Nat) (t : Trees) (s : Store) (d : Dev) : Option (Trees) :=
ob2 (m167_w1 n n 0 t) fun c2 z2 =>
ob2 (m167_w2 n s d n 1 z2) fun c4 z6 =>
some z6
theorem t167 {n : Nat} {C : List Chunk} {rz1 : Trees} {b1 : Nat} {t : Trees} {b2 : Nat} {s : Store} {b3 : Nat} {d : Dev} {v1 : Value} {g1 : List Chunk} {v2 : Value} {g2 : List Chunk} {v3 : Value} {g3 : List Chunk} {v4 : Value} {g4 : List Chunk} (ho1 : Own rByte v1 d.blk g1) (ho2 : Own rByte v2 d.base g2) (ho3 : Own rInt v3 d.at_ g3) (ho4 : Own rByte v4 d.data g4)  (hm : m167 n t s d = some rz1) : Trip Tryz.prog 167 #[.pointer (some ⟨b1, 0, none⟩)] ([[(b1, .cells (Trees.enc (.pointer (some ⟨b2, 0, none⟩)) t).toArray 169 (0, 0))], [(b2, .cells (Store.enc (.pointer (some ⟨b3, 0, none⟩)) s).toArray 126 (0, 0))], [(b3, .cells (Dev.enc (v1) (v2) (v3) (v4) d).toArray 85 (0, 0))], g1, g2, g3, g4] ++ [C]) (fun u S' => .tuple #[] = u ∧ S' = [[(b1, .cells (Trees.enc (.pointer (some ⟨b2, 0, none⟩)) rz1).toArray 169 (0, 0))], [(b2, .cells (Store.enc (.pointer (some ⟨b3, 0, none⟩)) s).toArray 126 (0, 0))], [(b3, .cells (Dev.enc (v1) (v2) (v3) (v4) d).toArray 85 (0, 0))], g1, g2, g3, g4] ++ [C]) := by
  refine fn_entry (args := [.pointer (some ⟨b1, 0, none⟩)]) Tryz.func167 rfl Tryz.ntmps167 rfl (fun w0 => ?_)
  refine c_seq ?_
  refine c_seq ?_
  refine c_region ?_
  refine o_L (y_assign rfl) rfl rfl ?_
  refine o_nil0 rfl ?_
  obtain ⟨c2, z2, hj1, hm⟩ := bd2 hm
  refine c_joinP (n := 1) (fun sh G => sh = [(2, .int .i64 c2)] ∧ G = [[(b1, .cells (Trees.enc (.pointer (some ⟨b2, 0, none⟩)) z2).toArray 169 (0, 0))]]) (s_take (s_take (s_take (s_take (s_take (s_take (s_take (s_take s_nil)))))))) (.s .z) (fun _ _ h => h) ?_ ?_
  · skip
    refine c_block ?_
    refine c_loopP (n := 1) (fun mm sh G => ∃ (c1 : Int), ∃ (z1 : Trees), sh = [(2, .int .i64 c1)] ∧ G = [[(b1, .cells (Trees.enc (.pointer (some ⟨b2, 0, none⟩)) z1).toArray 169 (0, 0))]] ∧ m167_w1 n mm c1 z1 = some (c2, z2)) n (s_take (s_take (s_take (s_take (s_take (s_take (s_take (s_take s_nil)))))))) (.s .z) ⟨_, _, ⟨_, _, rfl, rfl, hj1⟩, ⟨rfl, trivial⟩, _, (s_take (s_take (s_take (s_take (s_take (s_take (s_take (s_take s_nil))))))))⟩ ?_
    rintro mm sh G ⟨c1, z1, rfl, rfl, hm⟩
    obtain ⟨mm1, rfl, hm⟩ := it2_s hm
    refine c_seq ?_
    refine c_seq ?_
    refine c_region ?_
    refine o_T (y_move rfl) rfl ?_
    refine o_T (y_leq rfl rfl) rfl ?_
    refine o_nil1 8 rfl rfl ?_
    refine c_cond rfl (fun h1 => ?_) (fun h1 => ?_)
    · have hm := cd_t h1 hm
      refine c_skip ?_
      refine c_seq ?_
      refine c_block ?_
      refine c_seq ?_
      refine c_region ?_
      refine o_T (y_move rfl) rfl ?_
      refine o_T (y_move rfl) rfl ?_
      refine o_T (y_nilck rfl) rfl ?_
      refine o_T (y_fa fl_169_1 rfl) rfl ?_
      obtain ⟨_, hx1, hm⟩ := bd hm
      have hx1 := ckA_some hx1
      refine o_T (y_ia ar_167 rfl rfl hx1.1 hx1.2) rfl ?_
      obtain ⟨z3, hn1, hm⟩ := nm_s hm
      refine o_stN one_3 rfl rfl rfl ((Upd.z Trees.u_kind).comp (encN_u encI_len _ _ _ hx1.1 _ hx1.2)) r0 (show (Trees.enc (.pointer (some ⟨b2, 0, none⟩)) z3) = _ from by subst hn1; rfl) ?_
      refine o_nil0 rfl ?_
      refine c_region ?_
      refine o_T (y_move rfl) rfl ?_
      refine o_T (y_move rfl) rfl ?_
      refine o_T (y_nilck rfl) rfl ?_
      refine o_T (y_fa fl_169_2 rfl) rfl ?_
      obtain ⟨_, hx2, hm⟩ := bd hm
      have hx2 := ckA_some hx2
      refine o_T (y_ia ar_167 rfl rfl hx2.1 hx2.2) rfl ?_
      obtain ⟨z4, hn2, hm⟩ := nm_s hm
      refine o_stN one_3 rfl rfl rfl ((Upd.z Trees.u_count).comp (encN_u encI_len _ _ _ hx2.1 _ hx2.2)) r0 (show (Trees.enc (.pointer (some ⟨b2, 0, none⟩)) z4) = _ from by subst hn2; rfl) ?_
      refine o_nil0 rfl ?_
      refine c_region ?_
      refine o_T (y_move rfl) rfl ?_
      refine o_T (y_add rfl rfl rfl) rfl ?_
      refine o_L (y_assign rfl) rfl rfl ?_
      refine o_nil0 rfl ?_
      exact ⟨mm1, Nat.lt_succ_self _, _, _, ⟨_, _, rfl, rfl, hm⟩, ⟨rfl, trivial⟩, ⟨rfl, rfl⟩, _, (s_take (s_take (s_take (s_take (s_take (s_take (s_take (s_take s_nil))))))))⟩
    · have hm := cd_f h1 hm
      refine c_exit ?_
      obtain ⟨rfl, rfl⟩ := pr2 hm
      exact ⟨_, _, ⟨rfl, rfl⟩, ⟨rfl, trivial⟩, ⟨rfl, rfl⟩, _, (s_take (s_take (s_take (s_take (s_take (s_take (s_take (s_take s_nil))))))))⟩
  · rintro sh G ⟨rfl, rfl⟩
    refine c_seq ?_
    refine c_region ?_
    refine o_L (y_assign rfl) rfl rfl ?_
    refine o_nil0 rfl ?_
    obtain ⟨c4, z6, hj2, hm⟩ := bd2 hm
    have hk2 := hm
    refine c_block ?_
    refine c_loopP (n := 1) (fun mm sh G => ∃ (c3 : Int), ∃ (z5 : Trees), sh = [(3, .int .i64 c3)] ∧ G = [[(b1, .cells (Trees.enc (.pointer (some ⟨b2, 0, none⟩)) z5).toArray 169 (0, 0))]] ∧ m167_w2 n s d mm c3 z5 = some (c4, z6)) n (s_take (s_take (s_take (s_take (s_take (s_take (s_take (s_take s_nil)))))))) (.s .z) ⟨_, _, ⟨_, _, rfl, rfl, hj2⟩, ⟨rfl, trivial⟩, _, (s_take (s_take (s_take (s_take (s_take (s_take (s_take (s_take s_nil))))))))⟩ ?_
    rintro mm sh G ⟨c3, z5, rfl, rfl, hm⟩
    obtain ⟨mm2, rfl, hm⟩ := it2_s hm
    refine c_seq ?_
    refine c_seq ?_
    refine c_region ?_
    refine o_T (y_move rfl) rfl ?_
    refine o_T (y_leq rfl rfl) rfl ?_
    refine o_nil1 22 rfl rfl ?_
    refine c_cond rfl (fun h2 => ?_) (fun h2 => ?_)
    · have hm := cd_t h2 hm
      refine c_skip ?_
      refine c_seq ?_
      refine c_block ?_
      refine c_seq ?_
      refine c_region ?_
      refine o_T (y_move rfl) rfl ?_
      refine o_T (y_nilck rfl) rfl ?_
      refine o_T (y_fa fl_169_0 rfl) rfl ?_
      refine o_ld one_28 rfl m0 (At.got (At.refl.comp Trees.a_o)) rfl ?_
      refine o_T (y_move rfl) rfl ?_
      obtain ⟨c5, l1, c6, hx3, hm⟩ := bd3 hm
      refine o_callC en_194 rfl (s_skip (s_take (s_take (s_take (s_take (s_take (s_take s_nil))))))) (t194 ho1 ho2 ho3 ho4 hx3) rfl (fun u1 S1 hR1 => ?_)
      obtain ⟨v5, g5, rfl, rfl, ho5⟩ := hR1
      refine o_rest ?_
      refine o_T (y_move rfl) rfl ?_
      refine o_T (y_extract rfl rfl) rfl ?_
      refine o_T (y_extract rfl rfl) rfl ?_
      refine o_T (y_extract rfl rfl) rfl ?_
      refine o_L (y_assign rfl) rfl rfl ?_
      refine o_L (y_assign rfl) rfl rfl ?_
      refine o_L (y_assign rfl) rfl rfl ?_
      refine o_nil0 rfl ?_
      refine c_seq ?_
      refine c_region ?_
      refine o_T (y_move rfl) rfl ?_
      refine o_T (y_eql rfl rfl) rfl ?_
      refine o_nil1 36 rfl rfl ?_
      refine c_cond rfl (fun h3 => ?_) (fun h3 => ?_)
      · have hm := cd_t h3 hm
        refine c_seq ?_
        refine c_region ?_
        refine o_T (y_move rfl) rfl ?_
        refine o_T (y_move rfl) rfl ?_
        refine o_T (y_move rfl) rfl ?_
        refine o_T (y_nilck rfl) rfl ?_
        refine o_T (y_fa fl_169_1 rfl) rfl ?_
        obtain ⟨_, hx4, hm⟩ := bd hm
        have hx4 := ckA_some hx4
        refine o_T (y_ia ar_167 rfl rfl hx4.1 hx4.2) rfl ?_
        obtain ⟨z7, hn3, hm⟩ := nm_s hm
        refine o_stN one_3 rfl rfl rfl ((Upd.z Trees.u_kind).comp (encN_u encI_len _ _ _ hx4.1 _ hx4.2)) (rs (rs (rs (rs (rs (rs (rs r0))))))) (show (Trees.enc (.pointer (some ⟨b2, 0, none⟩)) z7) = _ from by subst hn3; rfl) ?_
        refine o_nil0 rfl ?_
        refine c_seq ?_
        refine c_region ?_
        refine o_T (y_move rfl) rfl ?_
        refine o_T (y_eql rfl rfl) rfl ?_
        refine o_nil1 44 rfl rfl ?_
        refine c_cond rfl (fun h4 => ?_) (fun h4 => ?_)
        · have hm := cd_t h4 hm
          refine c_region ?_
          refine o_T (y_move rfl) rfl ?_
          refine o_T (y_move rfl) rfl ?_
          obtain ⟨z8, hx5, hm⟩ := bd1 hm
          refine o_callC en_245 rfl (s_skip (s_skip (s_skip (s_skip (s_skip (s_skip (s_skip (s_take s_nil)))))))) (t245 (ho5.rd.mono (fun _ hz => (ms (ms (ms (ms (ms (ms (mg hz))))))))) hx5) rfl (fun u2 S2 hR2 => ?_)
          obtain ⟨rfl, rfl⟩ := hR2
          refine o_rest ?_
          refine o_nil0 rfl ?_
          refine c_region ?_
          refine o_T (y_move rfl) rfl ?_
          refine o_T (y_add rfl rfl rfl) rfl ?_
          refine o_L (y_assign rfl) rfl rfl ?_
          refine o_nil0 rfl ?_
          exact ⟨mm2, Nat.lt_succ_self _, _, _, ⟨_, _, rfl, rfl, hm⟩, ⟨rfl, trivial⟩, ⟨rfl, rfl⟩, _, (s_take (s_take (s_take (s_take (s_take (s_take (s_take (s_skip (s_take s_nil)))))))))⟩
        · have hm := cd_f h4 hm
          refine c_skip ?_
          refine c_region ?_
          refine o_T (y_move rfl) rfl ?_
          refine o_T (y_add rfl rfl rfl) rfl ?_
          refine o_L (y_assign rfl) rfl rfl ?_
          refine o_nil0 rfl ?_
          exact ⟨mm2, Nat.lt_succ_self _, _, _, ⟨_, _, rfl, rfl, hm⟩, ⟨rfl, trivial⟩, ⟨rfl, rfl⟩, _, (s_get (ks (ks (ks (ks (ks (ks (ks k0))))))) (s_take (s_take (s_take (s_take (s_take (s_take (s_skip (s_take s_nil)))))))))⟩
      · have hm := cd_f h3 hm
        refine c_skip ?_
        refine c_region ?_
        refine o_T (y_move rfl) rfl ?_
        refine o_T (y_add rfl rfl rfl) rfl ?_
        refine o_L (y_assign rfl) rfl rfl ?_
        refine o_nil0 rfl ?_
        exact ⟨mm2, Nat.lt_succ_self _, _, _, ⟨_, _, rfl, rfl, hm⟩, ⟨rfl, trivial⟩, ⟨rfl, rfl⟩, _, (s_get (ks (ks (ks (ks (ks (ks (ks k0))))))) (s_take (s_take (s_take (s_take (s_take (s_take (s_skip (s_take s_nil)))))))))⟩
    · have hm := cd_f h2 hm
      refine c_exit ?_
      obtain ⟨rfl, rfl⟩ := pr2 hm
      have hm := hk2
      obtain rfl := p1 hm
      refine fun aX wX heX hsX => ret0 Tryz.results167 (s_take (s_take (s_take (s_take (s_take (s_take (s_take (s_take s_nil)))))))) ?_
      exact ⟨rfl, rfl⟩
end Go.Proofs.Qxb6500350aGreat
