/- MADE BY PROGRAM (tools350/mir.py): mirror and walk. -/
import Derived.Test.Qxb6500350aGreatF2
import Derived.Test.Qxb6500350aGreatT234
import Derived.Test.Qxb6500350aGreatT214
import Derived.Test.Qxb6500350aGreatT222
import Derived.Test.Qxb6500350aGreatT223
import Derived.Test.Qxb6500350aGreatT235
import Derived.Test.Qxb6500350aGreatT236
import Derived.Test.Qxb6500350aGreatT237
import Derived.Test.Qxb6500350aGreatT238
import Derived.Test.Qxb6500350aGreatT239
set_option linter.unusedVariables false
set_option linter.unusedSimpArgs false
set_option maxRecDepth 20000
set_option maxHeartbeats 4000000
namespace Go.Proofs.Qxb6500350aGreat
open Go.Eng

/- (*graph.Graph).Collect -/
def m160_w1 (n : Nat) (g : Graph) (mm : Nat) : Int → Int → Option (Int × Int) := it2 (fun lp1 c3 c4 =>
cond (decide (c4 < g.nb)) (
Option.bind (ckA c4 4) fun _ =>
ob1 (m222 n ((g.br c4).id)) fun c7 =>
lp1 (bOr .u64 c3 c7) (wi (c4 + 1))) (
some (c3, c4))) mm
def m160_w2 (n : Nat) (g : Graph) (z1 : Trees) (z2 : Store) (z3 : Dev) (c12 : Int) (mm : Nat) : Int → Int → Option (Int × Int) := it2 (fun lp2 c14 c15 =>
cond (decide (c15 < g.n)) (
Option.bind (ckA c15 48) fun _ =>
ob1 (m222 n (g.order c15)) fun c18 =>
cond (decide (¬ ((bAnd .u64 c12 c18) = 0))) (
Option.bind (ckA (g.order c15) 49) fun _ =>
ob1 (m235 n g z1 z2 z3 c14 ((g.com (g.order c15)).tree)) fun c19 =>
lp2 c19 (wi (c15 + 1))) (
lp2 c14 (wi (c15 + 1)))) (
some (c14, c15))) mm
def m160 (n : Nat) (g : Graph) (t : Trees) (s : Store) (d : Dev) : Option (Int × Int × Graph × Trees × Store × Dev) :=
ob1 (m234 n g) fun l1 =>
ob5 (m214 n t s d 4 l1) fun c1 c2 z1 z2 z3 =>
cond (decide (¬ (c2 = 0))) (
some (0, c2, g, z1, z2, z3)) (
ob2 (m160_w1 n g n 0 0) fun c5 c6 =>
ob1 (cond (decide (g.name = [])) (
ob1 (m222 n g.at_) fun c9 =>
some (bOr .u64 c5 c9)) (
some c5)) fun c8 =>
ob1 (cond (decide (¬ (g.merge = 0))) (
ob1 (m222 n g.merge) fun c11 =>
some (bOr .u64 c8 c11)) (
some c8)) fun c10 =>
ob1 (m223 n g c10) fun c12 =>
ob1 (m222 n c1) fun c13 =>
ob2 (m160_w2 n g z1 z2 z3 c12 n (bOr .u64 c12 c13) 0) fun c16 c17 =>
ob1 (m235 n g z1 z2 z3 c16 g.aux) fun c20 =>
ob2 (m236 n g z1 z2 z3 c20) fun z4 z5 =>
ob3 (m237 n z4 z5 z3 c1) fun c21 z6 z7 =>
ob1 (m238 n g c12) fun z8 =>
ob1 (m239 n z4 z6) fun c22 =>
some ((wi (48 - c22)), 0, z8, z4, z6, z7))
theorem t160 {n : Nat} {C : List Chunk} {rc1 : Int} {rc2 : Int} {rz1 : Graph} {rz2 : Trees} {rz3 : Store} {rz4 : Dev} {b1 : Nat} {g : Graph} {b2 : Nat} {t : Trees} {b3 : Nat} {s : Store} {b4 : Nat} {d : Dev} {v1 : Value} {g1 : List Chunk} {v2 : Value} {g2 : List Chunk} {v3 : Value} {g3 : List Chunk} {v4 : Value} {g4 : List Chunk} (ho1 : Own rByte v1 d.blk g1) (ho2 : Own rByte v2 d.base g2) (ho3 : Own rInt v3 d.at_ g3) (ho4 : Own rByte v4 d.data g4)  (hm : m160 n g t s d = some (rc1, rc2, rz1, rz2, rz3, rz4)) : Trip Tryz.prog 160 #[.pointer (some ⟨b1, 0, none⟩)] ([[(b1, .cells (Graph.enc (.pointer (some ⟨b2, 0, none⟩)) g).toArray 179 (0, 0))], [(b2, .cells (Trees.enc (.pointer (some ⟨b3, 0, none⟩)) t).toArray 169 (0, 0))], [(b3, .cells (Store.enc (.pointer (some ⟨b4, 0, none⟩)) s).toArray 126 (0, 0))], [(b4, .cells (Dev.enc (v1) (v2) (v3) (v4) d).toArray 85 (0, 0))], g1, g2, g3, g4] ++ [C]) (fun u S' => ∃ (ev1 : Value), ∃ (eg1 : List Chunk), ∃ (ev2 : Value), ∃ (eg2 : List Chunk), ∃ (ev3 : Value), ∃ (eg3 : List Chunk), ∃ (ev4 : Value), ∃ (eg4 : List Chunk), .tuple #[.int .i64 rc1, .int .i64 rc2] = u ∧ S' = [[(b1, .cells (Graph.enc (.pointer (some ⟨b2, 0, none⟩)) rz1).toArray 179 (0, 0))], [(b2, .cells (Trees.enc (.pointer (some ⟨b3, 0, none⟩)) rz2).toArray 169 (0, 0))], [(b3, .cells (Store.enc (.pointer (some ⟨b4, 0, none⟩)) rz3).toArray 126 (0, 0))], [(b4, .cells (Dev.enc (ev1) (ev2) (ev3) (ev4) rz4).toArray 85 (0, 0))], eg1, eg2, eg3, eg4] ++ [C] ∧ Own rByte ev1 rz4.blk eg1 ∧ Own rByte ev2 rz4.base eg2 ∧ Own rInt ev3 rz4.at_ eg3 ∧ Own rByte ev4 rz4.data eg4) := by
  refine fn_entry (args := [.pointer (some ⟨b1, 0, none⟩)]) Tryz.func160 rfl Tryz.ntmps160 rfl (fun w0 => ?_)
  refine c_seq ?_
  refine c_region ?_
  refine o_L (y_assign rfl) rfl rfl ?_
  refine o_L (y_assign rfl) rfl rfl ?_
  refine o_nil0 rfl ?_
  refine c_seq ?_
  refine c_region ?_
  refine o_T (y_move rfl) rfl ?_
  obtain ⟨l1, hx1, hm⟩ := bd1 hm
  refine o_callC en_234 rfl (s_take s_nil) (t234 hx1) rfl (fun u1 S1 hR1 => ?_)
  obtain ⟨v5, g5, rfl, rfl, ho5⟩ := hR1
  refine o_rest ?_
  refine o_L (y_assign rfl) rfl rfl ?_
  refine o_nil0 rfl ?_
  refine c_seq ?_
  refine c_region ?_
  refine o_T (y_move rfl) rfl ?_
  refine o_T (y_nilck rfl) rfl ?_
  refine o_T (y_fa fl_179_0 rfl) rfl ?_
  refine o_ld one_29 rfl m0 (At.got (At.refl.comp Graph.a_t)) rfl ?_
  refine o_T (y_move rfl) rfl ?_
  obtain ⟨c1, c2, z1, z2, z3, hx2, hm⟩ := bd5 hm
  refine o_callC en_214 rfl (s_skip (s_skip (s_take (s_take (s_take (s_take (s_take (s_take (s_take s_nil))))))))) (t214 ho1 ho2 ho3 ho4 (ho5.rd.mono (fun _ hz => (ms (mg hz)))) hx2) rfl (fun u2 S2 hR2 => ?_)
  obtain ⟨v6, g6, v7, g7, v8, g8, v9, g9, rfl, rfl, ho6, ho7, ho8, ho9⟩ := hR2
  refine o_rest ?_
  refine o_T (y_move rfl) rfl ?_
  refine o_T (y_extract rfl rfl) rfl ?_
  refine o_T (y_extract rfl rfl) rfl ?_
  refine o_L (y_assign rfl) rfl rfl ?_
  refine o_L (y_assign rfl) rfl rfl ?_
  refine o_nil0 rfl ?_
  refine c_seq ?_
  refine c_seq ?_
  refine c_region ?_
  refine o_T (y_move rfl) rfl ?_
  refine o_T (y_neq rfl rfl) rfl ?_
  refine o_nil1 26 rfl rfl ?_
  refine c_cond rfl (fun h1 => ?_) (fun h1 => ?_)
  · have hm := cd_t h1 hm
    refine c_seq ?_
    refine c_region ?_
    refine o_T (y_move rfl) rfl ?_
    refine o_L (y_assign rfl) rfl rfl ?_
    refine o_L (y_assign rfl) rfl rfl ?_
    refine o_nil0 rfl ?_
    refine c_ret ?_
    obtain ⟨rfl, rfl, rfl, rfl, rfl, rfl⟩ := pr6 hm
    refine fun aX wX heX hsX => ret2 Tryz.results160 heX rfl rfl (s_get (ks (ks (ks (ks (ks (ks (ks k0))))))) (s_take (s_take (s_take (s_take (s_take (s_take (s_take (s_skip (s_take s_nil)))))))))) ?_
    exact ⟨v6, _, v7, _, v8, _, v9, _, rfl, rfl, ho6, ho7, ho8, ho9⟩
  · have hm := cd_f h1 hm
    refine c_skip ?_
    refine c_seq ?_
    refine c_region ?_
    refine o_L (y_assign rfl) rfl rfl ?_
    refine o_nil0 rfl ?_
    refine c_seq ?_
    refine c_seq ?_
    refine c_region ?_
    refine o_L (y_assign rfl) rfl rfl ?_
    refine o_nil0 rfl ?_
    obtain ⟨c5, c6, hj1, hm⟩ := bd2 hm
    refine c_joinP (n := 0) (fun sh G => sh = [(7, .int .u64 c5), (8, .int .i64 c6)] ∧ G = []) (s_take (s_take (s_take (s_take (s_take (s_take (s_take (s_take (s_skip (s_take s_nil)))))))))) .z (fun _ _ h => h) ?_ ?_
    · skip
      refine c_block ?_
      refine c_loopP (n := 0) (fun mm sh G => ∃ (c3 : Int), ∃ (c4 : Int), sh = [(7, .int .u64 c3), (8, .int .i64 c4)] ∧ G = [] ∧ m160_w1 n g mm c3 c4 = some (c5, c6)) n (s_take (s_take (s_take (s_take (s_take (s_take (s_take (s_take (s_skip (s_take s_nil)))))))))) .z ⟨_, _, ⟨_, _, rfl, rfl, hj1⟩, ⟨rfl, rfl, trivial⟩, _, (s_take (s_take (s_take (s_take (s_take (s_take (s_take (s_take (s_skip (s_take s_nil))))))))))⟩ ?_
      rintro mm sh G ⟨c3, c4, rfl, rfl, hm⟩
      obtain ⟨mm1, rfl, hm⟩ := it2_s hm
      refine c_seq ?_
      refine c_seq ?_
      refine c_region ?_
      refine o_T (y_move rfl) rfl ?_
      refine o_T (y_move rfl) rfl ?_
      refine o_T (y_nilck rfl) rfl ?_
      refine o_T (y_fa fl_179_5 rfl) rfl ?_
      refine o_ld one_3 rfl (ms (ms (ms (ms (ms (ms (ms m0))))))) (At.got (At.refl.comp Graph.a_nb)) rfl ?_
      refine o_T (y_lss rfl rfl) rfl ?_
      refine o_nil1 33 rfl rfl ?_
      refine c_cond rfl (fun h2 => ?_) (fun h2 => ?_)
      · have hm := cd_t h2 hm
        refine c_skip ?_
        refine c_seq ?_
        refine c_block ?_
        refine c_region ?_
        refine o_T (y_move rfl) rfl ?_
        refine o_T (y_move rfl) rfl ?_
        refine o_T (y_move rfl) rfl ?_
        refine o_T (y_nilck rfl) rfl ?_
        refine o_T (y_fa fl_179_4 rfl) rfl ?_
        obtain ⟨_, hx3, hm⟩ := bd hm
        have hx3 := ckA_some hx3
        refine o_T (y_ia ar_177 rfl rfl hx3.1 hx3.2) rfl ?_
        refine o_T (y_fa fl_176_1 rfl) rfl ?_
        refine o_ld one_3 rfl (ms (ms (ms (ms (ms (ms (ms m0))))))) (At.got (((At.refl.comp Graph.a_br).comp (encN_a Brn.len _ _ hx3.1 _ hx3.2)).comp Brn.a_id)) rfl ?_
        obtain ⟨c7, hx4, hm⟩ := bd1 hm
        refine o_callC en_222 rfl s_nil (t222 hx4) rfl (fun u3 S3 hR3 => ?_)
        obtain ⟨rfl, rfl⟩ := hR3
        refine o_rest ?_
        refine o_T (y_or rfl rfl rfl) rfl ?_
        refine o_L (y_assign rfl) rfl rfl ?_
        refine o_nil0 rfl ?_
        refine c_region ?_
        refine o_T (y_move rfl) rfl ?_
        refine o_T (y_add rfl rfl rfl) rfl ?_
        refine o_L (y_assign rfl) rfl rfl ?_
        refine o_nil0 rfl ?_
        exact ⟨mm1, Nat.lt_succ_self _, _, _, ⟨_, _, rfl, rfl, hm⟩, ⟨rfl, rfl, trivial⟩, ⟨rfl, rfl⟩, _, (s_take (s_take (s_take (s_take (s_take (s_take (s_take (s_take (s_take s_nil)))))))))⟩
      · have hm := cd_f h2 hm
        refine c_exit ?_
        obtain ⟨rfl, rfl⟩ := pr2 hm
        exact ⟨_, _, ⟨rfl, rfl⟩, ⟨rfl, rfl, trivial⟩, ⟨rfl, rfl⟩, _, (s_take (s_take (s_take (s_take (s_take (s_take (s_take (s_take (s_take s_nil)))))))))⟩
    · rintro sh G ⟨rfl, rfl⟩
      refine c_seq ?_
      refine c_seq ?_
      refine c_region ?_
      refine o_T (y_move rfl) rfl ?_
      refine o_T (y_nilck rfl) rfl ?_
      refine o_T (y_fa fl_179_6 rfl) rfl ?_
      refine o_ld one_9 rfl (ms (ms (ms (ms (ms (ms (ms m0))))))) (At.got (At.refl.comp Graph.a_name)) rfl ?_
      refine o_T (y_seq rfl rfl) rfl ?_
      refine o_nil1 50 rfl rfl ?_
      obtain ⟨c8, hj2, hm⟩ := bd1 hm
      refine c_joinP (n := 0) (fun sh G => sh = [(7, .int .u64 c8)] ∧ G = []) (s_take (s_take (s_take (s_take (s_take (s_take (s_take (s_take (s_take s_nil))))))))) .z (fun _ _ h => h) ?_ ?_
      · have hm := hj2
        refine c_cond rfl (fun h3 => ?_) (fun h3 => ?_)
        · have hm := cd_t h3 hm
          refine c_region ?_
          refine o_T (y_move rfl) rfl ?_
          refine o_T (y_move rfl) rfl ?_
          refine o_T (y_nilck rfl) rfl ?_
          refine o_T (y_fa fl_179_7 rfl) rfl ?_
          refine o_ld one_3 rfl (ms (ms (ms (ms (ms (ms (ms m0))))))) (At.got (At.refl.comp Graph.a_at_)) rfl ?_
          obtain ⟨c9, hx5, hm⟩ := bd1 hm
          refine o_callC en_222 rfl s_nil (t222 hx5) rfl (fun u4 S4 hR4 => ?_)
          obtain ⟨rfl, rfl⟩ := hR4
          refine o_rest ?_
          refine o_T (y_or rfl rfl rfl) rfl ?_
          refine o_L (y_assign rfl) rfl rfl ?_
          refine o_nil0 rfl ?_
          obtain rfl := p1 hm
          exact ⟨_, _, ⟨rfl, rfl⟩, ⟨rfl, trivial⟩, ⟨rfl, rfl⟩, _, (s_take (s_take (s_take (s_take (s_take (s_take (s_take (s_take (s_take s_nil)))))))))⟩
        · have hm := cd_f h3 hm
          refine c_skip ?_
          obtain rfl := p1 hm
          exact ⟨_, _, ⟨rfl, rfl⟩, ⟨rfl, trivial⟩, ⟨rfl, rfl⟩, _, (s_take (s_take (s_take (s_take (s_take (s_take (s_take (s_take (s_take s_nil)))))))))⟩
      · rintro sh G ⟨rfl, rfl⟩
        refine c_seq ?_
        refine c_seq ?_
        refine c_region ?_
        refine o_T (y_move rfl) rfl ?_
        refine o_T (y_nilck rfl) rfl ?_
        refine o_T (y_fa fl_179_8 rfl) rfl ?_
        refine o_ld one_3 rfl (ms (ms (ms (ms (ms (ms (ms m0))))))) (At.got (At.refl.comp Graph.a_merge)) rfl ?_
        refine o_T (y_neq rfl rfl) rfl ?_
        refine o_nil1 62 rfl rfl ?_
        obtain ⟨c10, hj3, hm⟩ := bd1 hm
        refine c_joinP (n := 0) (fun sh G => sh = [(7, .int .u64 c10)] ∧ G = []) (s_take (s_take (s_take (s_take (s_take (s_take (s_take (s_take (s_take s_nil))))))))) .z (fun _ _ h => h) ?_ ?_
        · have hm := hj3
          refine c_cond rfl (fun h4 => ?_) (fun h4 => ?_)
          · have hm := cd_t h4 hm
            refine c_region ?_
            refine o_T (y_move rfl) rfl ?_
            refine o_T (y_move rfl) rfl ?_
            refine o_T (y_nilck rfl) rfl ?_
            refine o_T (y_fa fl_179_8 rfl) rfl ?_
            refine o_ld one_3 rfl (ms (ms (ms (ms (ms (ms (ms m0))))))) (At.got (At.refl.comp Graph.a_merge)) rfl ?_
            obtain ⟨c11, hx6, hm⟩ := bd1 hm
            refine o_callC en_222 rfl s_nil (t222 hx6) rfl (fun u5 S5 hR5 => ?_)
            obtain ⟨rfl, rfl⟩ := hR5
            refine o_rest ?_
            refine o_T (y_or rfl rfl rfl) rfl ?_
            refine o_L (y_assign rfl) rfl rfl ?_
            refine o_nil0 rfl ?_
            obtain rfl := p1 hm
            exact ⟨_, _, ⟨rfl, rfl⟩, ⟨rfl, trivial⟩, ⟨rfl, rfl⟩, _, (s_take (s_take (s_take (s_take (s_take (s_take (s_take (s_take (s_take s_nil)))))))))⟩
          · have hm := cd_f h4 hm
            refine c_skip ?_
            obtain rfl := p1 hm
            exact ⟨_, _, ⟨rfl, rfl⟩, ⟨rfl, trivial⟩, ⟨rfl, rfl⟩, _, (s_take (s_take (s_take (s_take (s_take (s_take (s_take (s_take (s_take s_nil)))))))))⟩
        · rintro sh G ⟨rfl, rfl⟩
          refine c_seq ?_
          refine c_region ?_
          refine o_T (y_move rfl) rfl ?_
          refine o_T (y_move rfl) rfl ?_
          obtain ⟨c12, hx7, hm⟩ := bd1 hm
          refine o_callC en_223 rfl (s_skip (s_skip (s_skip (s_skip (s_skip (s_skip (s_skip (s_take s_nil)))))))) (t223 hx7) rfl (fun u6 S6 hR6 => ?_)
          obtain ⟨rfl, rfl⟩ := hR6
          refine o_rest ?_
          refine o_L (y_assign rfl) rfl rfl ?_
          refine o_nil0 rfl ?_
          refine c_seq ?_
          refine c_region ?_
          refine o_T (y_move rfl) rfl ?_
          refine o_T (y_move rfl) rfl ?_
          obtain ⟨c13, hx8, hm⟩ := bd1 hm
          refine o_callC en_222 rfl s_nil (t222 hx8) rfl (fun u7 S7 hR7 => ?_)
          obtain ⟨rfl, rfl⟩ := hR7
          refine o_rest ?_
          refine o_T (y_or rfl rfl rfl) rfl ?_
          refine o_L (y_assign rfl) rfl rfl ?_
          refine o_nil0 rfl ?_
          refine c_seq ?_
          refine c_seq ?_
          refine c_region ?_
          refine o_L (y_assign rfl) rfl rfl ?_
          refine o_nil0 rfl ?_
          obtain ⟨c16, c17, hj4, hm⟩ := bd2 hm
          refine c_joinP (n := 0) (fun sh G => sh = [(10, .int .u64 c16), (11, .int .i64 c17)] ∧ G = []) (s_take (s_take (s_take (s_take (s_take (s_take (s_take (s_take (s_take s_nil))))))))) .z (fun _ _ h => h) ?_ ?_
          · skip
            refine c_block ?_
            refine c_loopP (n := 0) (fun mm sh G => ∃ (c14 : Int), ∃ (c15 : Int), sh = [(10, .int .u64 c14), (11, .int .i64 c15)] ∧ G = [] ∧ m160_w2 n g z1 z2 z3 c12 mm c14 c15 = some (c16, c17)) n (s_take (s_take (s_take (s_take (s_take (s_take (s_take (s_take (s_take s_nil))))))))) .z ⟨_, _, ⟨_, _, rfl, rfl, hj4⟩, ⟨rfl, rfl, trivial⟩, _, (s_take (s_take (s_take (s_take (s_take (s_take (s_take (s_take (s_take s_nil)))))))))⟩ ?_
            rintro mm sh G ⟨c14, c15, rfl, rfl, hm⟩
            obtain ⟨mm2, rfl, hm⟩ := it2_s hm
            refine c_seq ?_
            refine c_seq ?_
            refine c_region ?_
            refine o_T (y_move rfl) rfl ?_
            refine o_T (y_move rfl) rfl ?_
            refine o_T (y_nilck rfl) rfl ?_
            refine o_T (y_fa fl_179_3 rfl) rfl ?_
            refine o_ld one_3 rfl m0 (At.got (At.refl.comp Graph.a_n)) rfl ?_
            refine o_T (y_lss rfl rfl) rfl ?_
            refine o_nil1 82 rfl rfl ?_
            refine c_cond rfl (fun h5 => ?_) (fun h5 => ?_)
            · have hm := cd_t h5 hm
              refine c_skip ?_
              refine c_seq ?_
              refine c_block ?_
              refine c_seq ?_
              refine c_region ?_
              refine o_T (y_move rfl) rfl ?_
              refine o_T (y_move rfl) rfl ?_
              refine o_T (y_nilck rfl) rfl ?_
              refine o_T (y_fa fl_179_2 rfl) rfl ?_
              obtain ⟨_, hx9, hm⟩ := bd hm
              have hx9 := ckA_some hx9
              refine o_T (y_ia ar_174 rfl rfl hx9.1 hx9.2) rfl ?_
              refine o_ld one_3 rfl m0 (At.got ((At.refl.comp Graph.a_order).comp (encN_a encI_len _ _ hx9.1 _ hx9.2))) rfl ?_
              refine o_L (y_assign rfl) rfl rfl ?_
              refine o_nil0 rfl ?_
              refine c_seq ?_
              refine c_region ?_
              refine o_T (y_move rfl) rfl ?_
              refine o_T (y_move rfl) rfl ?_
              obtain ⟨c18, hx10, hm⟩ := bd1 hm
              refine o_callC en_222 rfl s_nil (t222 hx10) rfl (fun u8 S8 hR8 => ?_)
              obtain ⟨rfl, rfl⟩ := hR8
              refine o_rest ?_
              refine o_T (y_and rfl rfl rfl) rfl ?_
              refine o_T (y_neq rfl rfl) rfl ?_
              refine o_nil1 95 rfl rfl ?_
              refine c_cond rfl (fun h6 => ?_) (fun h6 => ?_)
              · have hm := cd_t h6 hm
                refine c_region ?_
                refine o_T (y_move rfl) rfl ?_
                refine o_T (y_move rfl) rfl ?_
                refine o_T (y_move rfl) rfl ?_
                refine o_T (y_move rfl) rfl ?_
                refine o_T (y_nilck rfl) rfl ?_
                refine o_T (y_fa fl_179_1 rfl) rfl ?_
                obtain ⟨_, hx11, hm⟩ := bd hm
                have hx11 := ckA_some hx11
                refine o_T (y_ia ar_173 rfl rfl hx11.1 hx11.2) rfl ?_
                refine o_T (y_fa fl_172_2 rfl) rfl ?_
                refine o_ld one_3 rfl m0 (At.got (((At.refl.comp Graph.a_com).comp (encN_a Com.len _ _ hx11.1 _ hx11.2)).comp Com.a_tree)) rfl ?_
                obtain ⟨c19, hx12, hm⟩ := bd1 hm
                refine o_callC en_235 rfl (s_take (s_take (s_take (s_take (s_take (s_take (s_take (s_take s_nil)))))))) (t235 ho6 ho7 ho8 ho9 hx12) rfl (fun u9 S9 hR9 => ?_)
                obtain ⟨rfl, rfl⟩ := hR9
                refine o_rest ?_
                refine o_L (y_assign rfl) rfl rfl ?_
                refine o_nil0 rfl ?_
                refine c_region ?_
                refine o_T (y_move rfl) rfl ?_
                refine o_T (y_add rfl rfl rfl) rfl ?_
                refine o_L (y_assign rfl) rfl rfl ?_
                refine o_nil0 rfl ?_
                exact ⟨mm2, Nat.lt_succ_self _, _, _, ⟨_, _, rfl, rfl, hm⟩, ⟨rfl, rfl, trivial⟩, ⟨rfl, rfl⟩, _, (s_take (s_take (s_take (s_take (s_take (s_take (s_take (s_take (s_take s_nil)))))))))⟩
              · have hm := cd_f h6 hm
                refine c_skip ?_
                refine c_region ?_
                refine o_T (y_move rfl) rfl ?_
                refine o_T (y_add rfl rfl rfl) rfl ?_
                refine o_L (y_assign rfl) rfl rfl ?_
                refine o_nil0 rfl ?_
                exact ⟨mm2, Nat.lt_succ_self _, _, _, ⟨_, _, rfl, rfl, hm⟩, ⟨rfl, rfl, trivial⟩, ⟨rfl, rfl⟩, _, (s_take (s_take (s_take (s_take (s_take (s_take (s_take (s_take (s_take s_nil)))))))))⟩
            · have hm := cd_f h5 hm
              refine c_exit ?_
              obtain ⟨rfl, rfl⟩ := pr2 hm
              exact ⟨_, _, ⟨rfl, rfl⟩, ⟨rfl, rfl, trivial⟩, ⟨rfl, rfl⟩, _, (s_take (s_take (s_take (s_take (s_take (s_take (s_take (s_take (s_take s_nil)))))))))⟩
          · rintro sh G ⟨rfl, rfl⟩
            refine c_seq ?_
            refine c_region ?_
            refine o_T (y_move rfl) rfl ?_
            refine o_T (y_move rfl) rfl ?_
            refine o_T (y_move rfl) rfl ?_
            refine o_T (y_nilck rfl) rfl ?_
            refine o_T (y_fa fl_179_9 rfl) rfl ?_
            refine o_ld one_3 rfl m0 (At.got (At.refl.comp Graph.a_aux)) rfl ?_
            obtain ⟨c20, hx13, hm⟩ := bd1 hm
            refine o_callC en_235 rfl (s_take (s_take (s_take (s_take (s_take (s_take (s_take (s_take s_nil)))))))) (t235 ho6 ho7 ho8 ho9 hx13) rfl (fun u10 S10 hR10 => ?_)
            obtain ⟨rfl, rfl⟩ := hR10
            refine o_rest ?_
            refine o_L (y_assign rfl) rfl rfl ?_
            refine o_nil0 rfl ?_
            refine c_seq ?_
            refine c_region ?_
            refine o_T (y_move rfl) rfl ?_
            refine o_T (y_move rfl) rfl ?_
            obtain ⟨z4, z5, hx14, hm⟩ := bd2 hm
            refine o_callC en_236 rfl (s_take (s_take (s_take (s_take (s_take (s_take (s_take (s_take s_nil)))))))) (t236 ho6 ho7 ho8 ho9 hx14) rfl (fun u11 S11 hR11 => ?_)
            obtain ⟨rfl, rfl⟩ := hR11
            refine o_rest ?_
            refine o_nil0 rfl ?_
            refine c_seq ?_
            refine c_region ?_
            refine o_T (y_move rfl) rfl ?_
            refine o_T (y_nilck rfl) rfl ?_
            refine o_T (y_fa fl_179_0 rfl) rfl ?_
            refine o_ld one_29 rfl m0 (At.got (At.refl.comp Graph.a_t)) rfl ?_
            refine o_T (y_move rfl) rfl ?_
            obtain ⟨c21, z6, z7, hx15, hm⟩ := bd3 hm
            refine o_callC en_237 rfl (s_skip (s_take (s_take (s_take (s_take (s_take (s_take (s_take s_nil)))))))) (t237 ho6 ho7 ho8 ho9 hx15) rfl (fun u12 S12 hR12 => ?_)
            obtain ⟨v10, g10, v11, g11, v12, g12, v13, g13, rfl, rfl, ho10, ho11, ho12, ho13⟩ := hR12
            refine o_rest ?_
            refine o_nil0 rfl ?_
            refine c_seq ?_
            refine c_region ?_
            refine o_T (y_move rfl) rfl ?_
            refine o_T (y_move rfl) rfl ?_
            obtain ⟨z8, hx16, hm⟩ := bd1 hm
            refine o_callC en_238 rfl (s_skip (s_skip (s_skip (s_skip (s_skip (s_skip (s_skip (s_take s_nil)))))))) (t238 hx16) rfl (fun u13 S13 hR13 => ?_)
            obtain ⟨rfl, rfl⟩ := hR13
            refine o_rest ?_
            refine o_nil0 rfl ?_
            refine c_seq ?_
            refine c_region ?_
            refine o_T (y_move rfl) rfl ?_
            refine o_T (y_nilck rfl) rfl ?_
            refine o_T (y_fa fl_179_0 rfl) rfl ?_
            refine o_ld one_29 rfl m0 (At.got (At.refl.comp Graph.a_t)) rfl ?_
            obtain ⟨c22, hx17, hm⟩ := bd1 hm
            refine o_callC en_239 rfl (s_skip (s_take (s_take s_nil))) (t239 hx17) rfl (fun u14 S14 hR14 => ?_)
            obtain ⟨rfl, rfl⟩ := hR14
            refine o_rest ?_
            refine o_L (y_assign rfl) rfl rfl ?_
            refine o_nil0 rfl ?_
            refine c_seq ?_
            refine c_region ?_
            refine o_T (y_move rfl) rfl ?_
            refine o_T (y_sub rfl rfl rfl) rfl ?_
            refine o_L (y_assign rfl) rfl rfl ?_
            refine o_L (y_assign rfl) rfl rfl ?_
            refine o_nil0 rfl ?_
            refine c_ret ?_
            obtain ⟨rfl, rfl, rfl, rfl, rfl, rfl⟩ := pr6 hm
            refine fun aX wX heX hsX => ret2 Tryz.results160 heX rfl rfl (s_get (ks (ks k0)) (s_take (s_take (s_take (s_take (s_take (s_take (s_take (s_take s_nil))))))))) ?_
            exact ⟨v10, _, v11, _, v12, _, v13, _, rfl, rfl, ho10, ho11, ho12, ho13⟩
end Go.Proofs.Qxb6500350aGreat
