/- MADE BY PROGRAM (tools350/mir.py): mirror and walk. -/
import Derived.Test.Qxb6500350aGreatF2
import Derived.Test.Qxb6500350aGreatT222
import Derived.Test.Qxb6500350aGreatT276
set_option linter.unusedVariables false
set_option linter.unusedSimpArgs false
set_option maxRecDepth 20000
set_option maxHeartbeats 4000000
namespace Go.Proofs.Qxb6500350aGreat
open Go.Eng

/- (*graph.Graph).sweep -/
def m236_w2 (n : Nat) (d : Dev) (mark : Int) (mm : Nat) : Int → Int → Trees → Store → Option (Int × Int × Trees × Store) := it4 (fun lp2 c3 c4 z5 z6 =>
cond (decide (c4 ≤ 48)) (
ob1 (m222 n c4) fun c7 =>
cond (decide ((bAnd .u64 mark c7) = 0)) (
ob3 (m276 n z5 z6 d c4) fun c8 z9 z10 =>
cond (decide (c8 = 0)) (
lp2 (wi (c3 + 1)) (wi (c4 + 1)) z9 z10) (
lp2 c3 (wi (c4 + 1)) z9 z10)) (
lp2 c3 (wi (c4 + 1)) z5 z6)) (
some (c3, c4, z5, z6))) mm
def m236_w1 (n : Nat) (d : Dev) (mark : Int) (mm : Nat) : Int → Trees → Store → Option (Flow (Trees × Store) (Int × Trees × Store)) := it3 (fun lp1 c1 z1 z2 =>
cond (decide (c1 < 48)) (
ob4 (m236_w2 n d mark n 0 1 z1 z2) fun c5 c6 z7 z8 =>
cond (decide (c5 = 0)) (
Option.bind (some (z7, z8)) fun q1 => some (.ret q1)) (
lp1 (wi (c1 + 1)) z7 z8)) (
some (.nx (c1, z1, z2)))) mm
def m236 (n : Nat) (g : Graph) (t : Trees) (s : Store) (d : Dev) (mark : Int) : Option (Trees × Store) :=
flow (m236_w1 n d mark n 0 t s) some (un3 fun c2 z3 z4 =>
some (z3, z4))
theorem t236 {n : Nat} {C : List Chunk} {rz1 : Trees} {rz2 : Store} {b1 : Nat} {g : Graph} {b2 : Nat} {t : Trees} {b3 : Nat} {s : Store} {b4 : Nat} {d : Dev} {v1 : Value} {g1 : List Chunk} {v2 : Value} {g2 : List Chunk} {v3 : Value} {g3 : List Chunk} {v4 : Value} {g4 : List Chunk} {mark : Int} (ho1 : Own rByte v1 d.blk g1) (ho2 : Own rByte v2 d.base g2) (ho3 : Own rInt v3 d.at_ g3) (ho4 : Own rByte v4 d.data g4)  (hm : m236 n g t s d mark = some (rz1, rz2)) : Trip Tryz.prog 236 #[.pointer (some ⟨b1, 0, none⟩), .int .u64 mark] ([[(b1, .cells (Graph.enc (.pointer (some ⟨b2, 0, none⟩)) g).toArray 179 (0, 0))], [(b2, .cells (Trees.enc (.pointer (some ⟨b3, 0, none⟩)) t).toArray 169 (0, 0))], [(b3, .cells (Store.enc (.pointer (some ⟨b4, 0, none⟩)) s).toArray 126 (0, 0))], [(b4, .cells (Dev.enc (v1) (v2) (v3) (v4) d).toArray 85 (0, 0))], g1, g2, g3, g4] ++ [C]) (fun u S' => .tuple #[] = u ∧ S' = [[(b1, .cells (Graph.enc (.pointer (some ⟨b2, 0, none⟩)) g).toArray 179 (0, 0))], [(b2, .cells (Trees.enc (.pointer (some ⟨b3, 0, none⟩)) rz1).toArray 169 (0, 0))], [(b3, .cells (Store.enc (.pointer (some ⟨b4, 0, none⟩)) rz2).toArray 126 (0, 0))], [(b4, .cells (Dev.enc (v1) (v2) (v3) (v4) d).toArray 85 (0, 0))], g1, g2, g3, g4] ++ [C]) := by
  refine fn_entry (args := [.pointer (some ⟨b1, 0, none⟩), .int .u64 mark]) Tryz.func236 rfl Tryz.ntmps236 rfl (fun w0 => ?_)
  refine c_seq ?_
  refine c_region ?_
  refine o_L (y_assign rfl) rfl rfl ?_
  refine o_nil0 rfl ?_
  obtain ⟨f1, F1, hF1, hj1, hF2⟩ := fl2 hm
  refine c_block ?_
  refine c_loopP (n := 2) (fun mm sh G => ∃ (c1 : Int), ∃ (z1 : Trees), ∃ (z2 : Store), sh = [(4, .int .i64 c1)] ∧ G = [[(b2, .cells (Trees.enc (.pointer (some ⟨b3, 0, none⟩)) z1).toArray 169 (0, 0))], [(b3, .cells (Store.enc (.pointer (some ⟨b4, 0, none⟩)) z2).toArray 126 (0, 0))]] ∧ m236_w1 n d mark mm c1 z1 z2 = some f1) n (s_get (ks k0) (s_get (ks k0) (s_take (s_take (s_take (s_take (s_take (s_take (s_take s_nil))))))))) (.s (.s .z)) ⟨_, _, ⟨_, _, _, rfl, rfl, hj1⟩, ⟨rfl, trivial⟩, _, (s_get (ks k0) (s_get (ks k0) (s_take (s_take (s_take (s_take (s_take (s_take (s_take s_nil)))))))))⟩ ?_
  rintro mm sh G ⟨c1, z1, z2, rfl, rfl, hm⟩
  obtain ⟨mm1, rfl, hm⟩ := it3_s hm
  refine c_seq ?_
  refine c_seq ?_
  refine c_region ?_
  refine o_T (y_move rfl) rfl ?_
  refine o_T (y_lss rfl rfl) rfl ?_
  refine o_nil1 9 rfl rfl ?_
  refine c_cond rfl (fun h1 => ?_) (fun h1 => ?_)
  · have hm := cd_t h1 hm
    refine c_skip ?_
    refine c_seq ?_
    refine c_block ?_
    refine c_seq ?_
    refine c_region ?_
    refine o_L (y_assign rfl) rfl rfl ?_
    refine o_nil0 rfl ?_
    refine c_seq ?_
    refine c_seq ?_
    refine c_region ?_
    refine o_L (y_assign rfl) rfl rfl ?_
    refine o_nil0 rfl ?_
    obtain ⟨c5, c6, z7, z8, hj2, hm⟩ := bd4 hm
    refine c_joinP (n := 2) (fun sh G => sh = [(5, .int .i64 c5), (6, .int .i64 c6)] ∧ G = [[(b2, .cells (Trees.enc (.pointer (some ⟨b3, 0, none⟩)) z7).toArray 169 (0, 0))], [(b3, .cells (Store.enc (.pointer (some ⟨b4, 0, none⟩)) z8).toArray 126 (0, 0))]]) (s_take (s_take (s_take (s_take (s_take (s_take (s_take (s_take (s_take s_nil))))))))) (.s (.s .z)) (fun _ _ h => h) ?_ ?_
    · skip
      refine c_block ?_
      refine c_loopP (n := 2) (fun mm sh G => ∃ (c3 : Int), ∃ (c4 : Int), ∃ (z5 : Trees), ∃ (z6 : Store), sh = [(5, .int .i64 c3), (6, .int .i64 c4)] ∧ G = [[(b2, .cells (Trees.enc (.pointer (some ⟨b3, 0, none⟩)) z5).toArray 169 (0, 0))], [(b3, .cells (Store.enc (.pointer (some ⟨b4, 0, none⟩)) z6).toArray 126 (0, 0))]] ∧ m236_w2 n d mark mm c3 c4 z5 z6 = some (c5, c6, z7, z8)) n (s_take (s_take (s_take (s_take (s_take (s_take (s_take (s_take (s_take s_nil))))))))) (.s (.s .z)) ⟨_, _, ⟨_, _, _, _, rfl, rfl, hj2⟩, ⟨rfl, rfl, trivial⟩, _, (s_take (s_take (s_take (s_take (s_take (s_take (s_take (s_take (s_take s_nil)))))))))⟩ ?_
      rintro mm sh G ⟨c3, c4, z5, z6, rfl, rfl, hm⟩
      obtain ⟨mm2, rfl, hm⟩ := it4_s hm
      refine c_seq ?_
      refine c_seq ?_
      refine c_region ?_
      refine o_T (y_move rfl) rfl ?_
      refine o_T (y_leq rfl rfl) rfl ?_
      refine o_nil1 13 rfl rfl ?_
      refine c_cond rfl (fun h2 => ?_) (fun h2 => ?_)
      · have hm := cd_t h2 hm
        refine c_skip ?_
        refine c_seq ?_
        refine c_block ?_
        refine c_seq ?_
        refine c_region ?_
        refine o_T (y_move rfl) rfl ?_
        refine o_T (y_move rfl) rfl ?_
        obtain ⟨c7, hx1, hm⟩ := bd1 hm
        refine o_callC en_222 rfl s_nil (t222 hx1) rfl (fun u1 S1 hR1 => ?_)
        obtain ⟨rfl, rfl⟩ := hR1
        refine o_rest ?_
        refine o_T (y_and rfl rfl rfl) rfl ?_
        refine o_T (y_eql rfl rfl) rfl ?_
        refine o_nil1 20 rfl rfl ?_
        refine c_cond rfl (fun h3 => ?_) (fun h3 => ?_)
        · have hm := cd_t h3 hm
          refine c_seq ?_
          refine c_region ?_
          refine o_T (y_move rfl) rfl ?_
          refine o_T (y_nilck rfl) rfl ?_
          refine o_T (y_fa fl_179_0 rfl) rfl ?_
          refine o_ld one_29 rfl (ms (ms m0)) (At.got (At.refl.comp Graph.a_t)) rfl ?_
          refine o_T (y_move rfl) rfl ?_
          obtain ⟨c8, z9, z10, hx2, hm⟩ := bd3 hm
          refine o_callC en_276 rfl (s_take (s_take (s_skip (s_take (s_take (s_take (s_take (s_take s_nil)))))))) (t276 ho1 ho2 ho3 ho4 hx2) rfl (fun u2 S2 hR2 => ?_)
          obtain ⟨rfl, rfl⟩ := hR2
          refine o_rest ?_
          refine o_L (y_assign rfl) rfl rfl ?_
          refine o_nil0 rfl ?_
          refine c_seq ?_
          refine c_region ?_
          refine o_T (y_move rfl) rfl ?_
          refine o_T (y_eql rfl rfl) rfl ?_
          refine o_nil1 28 rfl rfl ?_
          refine c_cond rfl (fun h4 => ?_) (fun h4 => ?_)
          · have hm := cd_t h4 hm
            refine c_region ?_
            refine o_T (y_move rfl) rfl ?_
            refine o_T (y_add rfl rfl rfl) rfl ?_
            refine o_L (y_assign rfl) rfl rfl ?_
            refine o_nil0 rfl ?_
            refine c_region ?_
            refine o_T (y_move rfl) rfl ?_
            refine o_T (y_add rfl rfl rfl) rfl ?_
            refine o_L (y_assign rfl) rfl rfl ?_
            refine o_nil0 rfl ?_
            exact ⟨mm2, Nat.lt_succ_self _, _, _, ⟨_, _, _, _, rfl, rfl, hm⟩, ⟨rfl, rfl, trivial⟩, ⟨rfl, rfl⟩, _, (s_take (s_take (s_get (ks (ks (ks (ks (ks k0))))) (s_take (s_take (s_take (s_take (s_take (s_take s_nil)))))))))⟩
          · have hm := cd_f h4 hm
            refine c_skip ?_
            refine c_region ?_
            refine o_T (y_move rfl) rfl ?_
            refine o_T (y_add rfl rfl rfl) rfl ?_
            refine o_L (y_assign rfl) rfl rfl ?_
            refine o_nil0 rfl ?_
            exact ⟨mm2, Nat.lt_succ_self _, _, _, ⟨_, _, _, _, rfl, rfl, hm⟩, ⟨rfl, rfl, trivial⟩, ⟨rfl, rfl⟩, _, (s_take (s_take (s_get (ks (ks (ks (ks (ks k0))))) (s_take (s_take (s_take (s_take (s_take (s_take s_nil)))))))))⟩
        · have hm := cd_f h3 hm
          refine c_skip ?_
          refine c_region ?_
          refine o_T (y_move rfl) rfl ?_
          refine o_T (y_add rfl rfl rfl) rfl ?_
          refine o_L (y_assign rfl) rfl rfl ?_
          refine o_nil0 rfl ?_
          exact ⟨mm2, Nat.lt_succ_self _, _, _, ⟨_, _, _, _, rfl, rfl, hm⟩, ⟨rfl, rfl, trivial⟩, ⟨rfl, rfl⟩, _, (s_take (s_take (s_take (s_take (s_take (s_take (s_take (s_take (s_take s_nil)))))))))⟩
      · have hm := cd_f h2 hm
        refine c_exit ?_
        obtain ⟨rfl, rfl, rfl, rfl⟩ := pr4 hm
        exact ⟨_, _, ⟨rfl, rfl⟩, ⟨rfl, rfl, trivial⟩, ⟨rfl, rfl⟩, _, (s_take (s_take (s_take (s_take (s_take (s_take (s_take (s_take (s_take s_nil)))))))))⟩
    · rintro sh G ⟨rfl, rfl⟩
      refine c_seq ?_
      refine c_region ?_
      refine o_T (y_move rfl) rfl ?_
      refine o_T (y_eql rfl rfl) rfl ?_
      refine o_nil1 32 rfl rfl ?_
      refine c_cond rfl (fun h5 => ?_) (fun h5 => ?_)
      · have hm := cd_t h5 hm
        refine c_ret ?_
        obtain ⟨q1, hq1, hm⟩ := bd hm
        have hm := fl_ret hm hF2
        have hm := hq1.trans hm
        obtain ⟨rfl, rfl⟩ := pr2 hm
        refine fun aX wX heX hsX => ret0 Tryz.results236 (s_get (ks (ks k0)) (s_take (s_take (s_take (s_take (s_take (s_take (s_take (s_take s_nil))))))))) ?_
        exact ⟨rfl, rfl⟩
      · have hm := cd_f h5 hm
        refine c_skip ?_
        refine c_region ?_
        refine o_T (y_move rfl) rfl ?_
        refine o_T (y_add rfl rfl rfl) rfl ?_
        refine o_L (y_assign rfl) rfl rfl ?_
        refine o_nil0 rfl ?_
        exact ⟨mm1, Nat.lt_succ_self _, _, _, ⟨_, _, _, rfl, rfl, hm⟩, ⟨rfl, trivial⟩, ⟨rfl, rfl⟩, _, (s_take (s_take (s_take (s_take (s_take (s_take (s_take (s_take (s_take s_nil)))))))))⟩
  · have hm := cd_f h1 hm
    refine c_exit ?_
    have hm := fl_nx hm hF2
    subst hF1
    obtain ⟨rfl, rfl⟩ := pr2 hm
    refine fun aX wX heX hsX => ret0 Tryz.results236 (s_get (ks (ks k0)) (s_take (s_take (s_take (s_take (s_take (s_take (s_take (s_take s_nil))))))))) ?_
    exact ⟨rfl, rfl⟩
end Go.Proofs.Qxb6500350aGreat
