/- MADE BY PROGRAM (tools350/mir.py): mirror and walk. -/
import Derived.Test.Qxb6500350aGreatF2
import Derived.Test.Qxb6500350aGreatT277
import Derived.Test.Qxb6500350aGreatT194
import Derived.Test.Qxb6500350aGreatT304
import Derived.Test.Qxb6500350aGreatT245
set_option linter.unusedVariables false
set_option linter.unusedSimpArgs false
set_option maxRecDepth 20000
set_option maxHeartbeats 4000000
namespace Go.Proofs.Qxb6500350aGreat
open Go.Eng

/- (*tree.Trees).Drop -/
def m276 (n : Nat) (t : Trees) (s : Store) (d : Dev) (id : Int) : Option (Int × Trees × Store) :=
ob1 (m277 n t id) fun c1 =>
cond (!c1) (
some (6, t, s)) (
Option.bind (ckA id 49) fun _ =>
cond (decide ((0 : Int) < (t.count id))) (
some (7, t, s)) (
Option.bind (ckA id 49) fun _ =>
ob1 (cond (decide ((t.kind id) = 2)) (
ob3 (m194 n s d id) fun c2 l2 c3 =>
some l2) (
some ([] : List UInt8))) fun l1 =>
ob2 (m304 n s d id) fun c4 z1 =>
cond (decide (¬ (c4 = 0))) (
some (c4, t, z1)) (
ob1 (m245 n t l1 (-1)) fun z2 =>
Option.bind (ckA id 49) fun _ =>
nm ({ z2 with kind := (upI z2.kind id 0) } : Trees) fun z3 =>
some (0, z3, z1))))
theorem t276 {n : Nat} {C : List Chunk} {rc1 : Int} {rz1 : Trees} {rz2 : Store} {b1 : Nat} {t : Trees} {b2 : Nat} {s : Store} {b3 : Nat} {d : Dev} {v1 : Value} {g1 : List Chunk} {v2 : Value} {g2 : List Chunk} {v3 : Value} {g3 : List Chunk} {v4 : Value} {g4 : List Chunk} {id : Int} (ho1 : Own rByte v1 d.blk g1) (ho2 : Own rByte v2 d.base g2) (ho3 : Own rInt v3 d.at_ g3) (ho4 : Own rByte v4 d.data g4)  (hm : m276 n t s d id = some (rc1, rz1, rz2)) : Trip Tryz.prog 276 #[.pointer (some ⟨b1, 0, none⟩), .int .i64 id] ([[(b1, .cells (Trees.enc (.pointer (some ⟨b2, 0, none⟩)) t).toArray 169 (0, 0))], [(b2, .cells (Store.enc (.pointer (some ⟨b3, 0, none⟩)) s).toArray 126 (0, 0))], [(b3, .cells (Dev.enc (v1) (v2) (v3) (v4) d).toArray 85 (0, 0))], g1, g2, g3, g4] ++ [C]) (fun u S' => .int .i64 rc1 = u ∧ S' = [[(b1, .cells (Trees.enc (.pointer (some ⟨b2, 0, none⟩)) rz1).toArray 169 (0, 0))], [(b2, .cells (Store.enc (.pointer (some ⟨b3, 0, none⟩)) rz2).toArray 126 (0, 0))], [(b3, .cells (Dev.enc (v1) (v2) (v3) (v4) d).toArray 85 (0, 0))], g1, g2, g3, g4] ++ [C]) := by
  refine fn_entry (args := [.pointer (some ⟨b1, 0, none⟩), .int .i64 id]) Tryz.func276 rfl Tryz.ntmps276 rfl (fun w0 => ?_)
  refine c_seq ?_
  refine c_region ?_
  refine o_L (y_assign rfl) rfl rfl ?_
  refine o_nil0 rfl ?_
  refine c_seq ?_
  refine c_seq ?_
  refine c_region ?_
  refine o_T (y_move rfl) rfl ?_
  refine o_T (y_move rfl) rfl ?_
  obtain ⟨c1, hx1, hm⟩ := bd1 hm
  refine o_callC en_277 rfl (s_take s_nil) (t277 hx1) rfl (fun u1 S1 hR1 => ?_)
  obtain ⟨rfl, rfl⟩ := hR1
  refine o_rest ?_
  refine o_T (y_not rfl) rfl ?_
  refine o_nil1 10 rfl rfl ?_
  refine c_cond rfl (fun h1 => ?_) (fun h1 => ?_)
  · have hm := cd_t h1 hm
    refine c_seq ?_
    refine c_region ?_
    refine o_L (y_assign rfl) rfl rfl ?_
    refine o_nil0 rfl ?_
    refine c_ret ?_
    obtain ⟨rfl, rfl, rfl⟩ := pr3 hm
    refine fun aX wX heX hsX => ret1 Tryz.results276 heX rfl (s_take (s_take (s_take (s_take (s_take (s_take (s_take (s_take s_nil)))))))) ?_
    exact ⟨rfl, rfl⟩
  · have hm := cd_f h1 hm
    refine c_skip ?_
    refine c_seq ?_
    refine c_seq ?_
    refine c_region ?_
    refine o_T (y_move rfl) rfl ?_
    refine o_T (y_move rfl) rfl ?_
    refine o_T (y_nilck rfl) rfl ?_
    refine o_T (y_fa fl_169_2 rfl) rfl ?_
    obtain ⟨_, hx2, hm⟩ := bd hm
    have hx2 := ckA_some hx2
    refine o_T (y_ia ar_167 rfl rfl hx2.1 hx2.2) rfl ?_
    refine o_ld one_3 rfl m0 (At.got ((At.refl.comp Trees.a_count).comp (encN_a encI_len _ _ hx2.1 _ hx2.2))) rfl ?_
    refine o_T (y_gtr rfl rfl) rfl ?_
    refine o_nil1 17 rfl rfl ?_
    refine c_cond rfl (fun h2 => ?_) (fun h2 => ?_)
    · have hm := cd_t h2 hm
      refine c_seq ?_
      refine c_region ?_
      refine o_L (y_assign rfl) rfl rfl ?_
      refine o_nil0 rfl ?_
      refine c_ret ?_
      obtain ⟨rfl, rfl, rfl⟩ := pr3 hm
      refine fun aX wX heX hsX => ret1 Tryz.results276 heX rfl (s_take (s_take (s_take (s_take (s_take (s_take (s_take (s_take s_nil)))))))) ?_
      exact ⟨rfl, rfl⟩
    · have hm := cd_f h2 hm
      refine c_skip ?_
      refine c_seq ?_
      refine c_region ?_
      have ho5 : Own rByte (.slice none 0 0) [] [] := Own.nil
      refine o_emp ?_
      refine o_L (y_assign rfl) rfl rfl ?_
      refine o_nil0 rfl ?_
      refine c_seq ?_
      refine c_seq ?_
      refine c_region ?_
      refine o_T (y_move rfl) rfl ?_
      refine o_T (y_move rfl) rfl ?_
      refine o_T (y_nilck rfl) rfl ?_
      refine o_T (y_fa fl_169_1 rfl) rfl ?_
      obtain ⟨_, hx3, hm⟩ := bd hm
      have hx3 := ckA_some hx3
      refine o_T (y_ia ar_167 rfl rfl hx3.1 hx3.2) rfl ?_
      refine o_ld one_3 rfl (ms m0) (At.got ((At.refl.comp Trees.a_kind).comp (encN_a encI_len _ _ hx3.1 _ hx3.2))) rfl ?_
      refine o_T (y_eql rfl rfl) rfl ?_
      refine o_nil1 24 rfl rfl ?_
      obtain ⟨l1, hj1, hm⟩ := bd1 hm
      refine c_joinP (n := 1) (fun sh G => ∃ (v5 : Value), ∃ (g5 : List Chunk), sh = [(5, v5)] ∧ G = [g5] ∧ Own rByte v5 l1 g5) (s_take (s_take (s_take (s_take (s_take (s_take (s_take (s_take (s_take s_nil))))))))) (.s .z) (fun _ _ h => h) ?_ ?_
      · have hm := hj1
        refine c_cond rfl (fun h3 => ?_) (fun h3 => ?_)
        · have hm := cd_t h3 hm
          refine c_region ?_
          refine o_T (y_move rfl) rfl ?_
          refine o_T (y_nilck rfl) rfl ?_
          refine o_T (y_fa fl_169_0 rfl) rfl ?_
          refine o_ld one_28 rfl (ms m0) (At.got (At.refl.comp Trees.a_o)) rfl ?_
          refine o_T (y_move rfl) rfl ?_
          obtain ⟨c2, l2, c3, hx4, hm⟩ := bd3 hm
          refine o_callC en_194 rfl (s_skip (s_skip (s_take (s_take (s_take (s_take (s_take (s_take s_nil)))))))) (t194 ho1 ho2 ho3 ho4 hx4) rfl (fun u2 S2 hR2 => ?_)
          obtain ⟨v6, g6, rfl, rfl, ho7⟩ := hR2
          refine o_rest ?_
          refine o_T (y_move rfl) rfl ?_
          refine o_T (y_extract rfl rfl) rfl ?_
          refine o_T (y_extract rfl rfl) rfl ?_
          refine o_T (y_extract rfl rfl) rfl ?_
          refine o_L (y_assign rfl) rfl rfl ?_
          refine o_nil0 rfl ?_
          obtain rfl := p1 hm
          exact ⟨_, _, ⟨v6, _, rfl, rfl, ho7⟩, ⟨rfl, trivial⟩, ⟨rfl, rfl⟩, _, (s_get (ks (ks (ks (ks (ks (ks k0)))))) (s_get (ks (ks (ks (ks (ks (ks (ks k0))))))) (s_take (s_take (s_take (s_take (s_take (s_take (s_skip (s_take s_nil))))))))))⟩
        · have hm := cd_f h3 hm
          refine c_skip ?_
          obtain rfl := p1 hm
          exact ⟨_, _, ⟨(.slice none 0 0), _, rfl, rfl, ho5⟩, ⟨rfl, trivial⟩, ⟨rfl, rfl⟩, _, (s_take (s_take (s_take (s_take (s_take (s_take (s_take (s_take (s_take s_nil)))))))))⟩
      · rintro sh G ⟨v5, g5, rfl, rfl, ho6⟩
        refine c_seq ?_
        refine c_region ?_
        refine o_T (y_move rfl) rfl ?_
        refine o_T (y_nilck rfl) rfl ?_
        refine o_T (y_fa fl_169_0 rfl) rfl ?_
        refine o_ld one_28 rfl (ms m0) (At.got (At.refl.comp Trees.a_o)) rfl ?_
        refine o_T (y_move rfl) rfl ?_
        obtain ⟨c4, z1, hx5, hm⟩ := bd2 hm
        refine o_callC en_304 rfl (s_skip (s_skip (s_take (s_take (s_take (s_take (s_take (s_take s_nil)))))))) (t304 ho1 ho2 ho3 ho4 hx5) rfl (fun u3 S3 hR3 => ?_)
        obtain ⟨rfl, rfl⟩ := hR3
        refine o_rest ?_
        refine o_L (y_assign rfl) rfl rfl ?_
        refine o_nil0 rfl ?_
        refine c_seq ?_
        refine c_seq ?_
        refine c_region ?_
        refine o_T (y_move rfl) rfl ?_
        refine o_T (y_neq rfl rfl) rfl ?_
        refine o_nil1 42 rfl rfl ?_
        refine c_cond rfl (fun h4 => ?_) (fun h4 => ?_)
        · have hm := cd_t h4 hm
          refine c_seq ?_
          refine c_region ?_
          refine o_T (y_move rfl) rfl ?_
          refine o_L (y_assign rfl) rfl rfl ?_
          refine o_nil0 rfl ?_
          refine c_ret ?_
          obtain ⟨rfl, rfl, rfl⟩ := pr3 hm
          refine fun aX wX heX hsX => ret1 Tryz.results276 heX rfl (s_get (ks (ks (ks (ks (ks (ks (ks k0))))))) (s_take (s_take (s_take (s_take (s_take (s_take (s_skip (s_take s_nil))))))))) ?_
          exact ⟨rfl, rfl⟩
        · have hm := cd_f h4 hm
          refine c_skip ?_
          refine c_seq ?_
          refine c_region ?_
          refine o_T (y_move rfl) rfl ?_
          refine o_T (y_move rfl) rfl ?_
          obtain ⟨z2, hx6, hm⟩ := bd1 hm
          refine o_callC en_245 rfl (s_skip (s_skip (s_skip (s_skip (s_skip (s_skip (s_skip (s_take s_nil)))))))) (t245 (ho6.rd.mono (fun _ hz => (ms (ms (ms (ms (ms (ms (mg hz))))))))) hx6) rfl (fun u4 S4 hR4 => ?_)
          obtain ⟨rfl, rfl⟩ := hR4
          refine o_rest ?_
          refine o_nil0 rfl ?_
          refine c_seq ?_
          refine c_region ?_
          refine o_T (y_move rfl) rfl ?_
          refine o_T (y_move rfl) rfl ?_
          refine o_T (y_nilck rfl) rfl ?_
          refine o_T (y_fa fl_169_1 rfl) rfl ?_
          obtain ⟨_, hx7, hm⟩ := bd hm
          have hx7 := ckA_some hx7
          refine o_T (y_ia ar_167 rfl rfl hx7.1 hx7.2) rfl ?_
          obtain ⟨z3, hn1, hm⟩ := nm_s hm
          refine o_stN one_3 rfl rfl rfl ((Upd.z Trees.u_kind).comp (encN_u encI_len _ _ _ hx7.1 _ hx7.2)) r0 (show (Trees.enc (.pointer (some ⟨b2, 0, none⟩)) z3) = _ from by subst hn1; rfl) ?_
          refine o_nil0 rfl ?_
          refine c_seq ?_
          refine c_region ?_
          refine o_L (y_assign rfl) rfl rfl ?_
          refine o_nil0 rfl ?_
          refine c_ret ?_
          obtain ⟨rfl, rfl, rfl⟩ := pr3 hm
          refine fun aX wX heX hsX => ret1 Tryz.results276 heX rfl (s_take (s_take (s_take (s_take (s_take (s_take (s_take (s_skip (s_take s_nil))))))))) ?_
          exact ⟨rfl, rfl⟩
end Go.Proofs.Qxb6500350aGreat
