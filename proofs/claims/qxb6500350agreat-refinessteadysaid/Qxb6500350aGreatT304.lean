/- MADE BY PROGRAM (tools350/mir.py): mirror and walk. -/
import Derived.Test.Qxb6500350aGreatF2
import Derived.Test.Qxb6500350aGreatT190
import Derived.Test.Qxb6500350aGreatT319
import Derived.Test.Qxb6500350aGreatT313
set_option linter.unusedVariables false
set_option linter.unusedSimpArgs false
set_option maxRecDepth 20000
set_option maxHeartbeats 4000000
namespace Go.Proofs.Qxb6500350aGreat
open Go.Eng

/- (*objects.Store).Drop -/
def m304 (n : Nat) (s : Store) (d : Dev) (id : Int) : Option (Int × Store) :=
ob1 (m190 n s id) fun c1 =>
cond (!c1) (
some (6, s)) (
ob1 (m319 n s id) fun z1 =>
Option.bind (ckA id 49) fun _ =>
cond (decide ((z1.tab id).state = 1)) (
ob1 (m313 n z1 d id) fun z2 =>
some (0, z2)) (
Option.bind (ckA id 49) fun _ =>
nm ({ z1 with tab := (upI z1.tab id { (z1.tab id) with state := 3 }) } : Store) fun z3 =>
some (0, z3)))
theorem t304 {n : Nat} {C : List Chunk} {rc1 : Int} {rz1 : Store} {b1 : Nat} {s : Store} {b2 : Nat} {d : Dev} {v1 : Value} {g1 : List Chunk} {v2 : Value} {g2 : List Chunk} {v3 : Value} {g3 : List Chunk} {v4 : Value} {g4 : List Chunk} {id : Int} (ho1 : Own rByte v1 d.blk g1) (ho2 : Own rByte v2 d.base g2) (ho3 : Own rInt v3 d.at_ g3) (ho4 : Own rByte v4 d.data g4)  (hm : m304 n s d id = some (rc1, rz1)) : Trip Tryz.prog 304 #[.pointer (some ⟨b1, 0, none⟩), .int .i64 id] ([[(b1, .cells (Store.enc (.pointer (some ⟨b2, 0, none⟩)) s).toArray 126 (0, 0))], [(b2, .cells (Dev.enc (v1) (v2) (v3) (v4) d).toArray 85 (0, 0))], g1, g2, g3, g4] ++ [C]) (fun u S' => .int .i64 rc1 = u ∧ S' = [[(b1, .cells (Store.enc (.pointer (some ⟨b2, 0, none⟩)) rz1).toArray 126 (0, 0))], [(b2, .cells (Dev.enc (v1) (v2) (v3) (v4) d).toArray 85 (0, 0))], g1, g2, g3, g4] ++ [C]) := by
  refine fn_entry (args := [.pointer (some ⟨b1, 0, none⟩), .int .i64 id]) Tryz.func304 rfl Tryz.ntmps304 rfl (fun w0 => ?_)
  refine c_seq ?_
  refine c_region ?_
  refine o_L (y_assign rfl) rfl rfl ?_
  refine o_nil0 rfl ?_
  refine c_seq ?_
  refine c_seq ?_
  refine c_region ?_
  refine o_T (y_move rfl) rfl ?_
  refine o_T (y_move rfl) rfl ?_
  obtain ⟨c1, hx1, hm⟩ := bd1 hm
  refine o_callC en_190 rfl (s_take s_nil) (t190 hx1) rfl (fun u1 S1 hR1 => ?_)
  obtain ⟨rfl, rfl⟩ := hR1
  refine o_rest ?_
  refine o_T (y_not rfl) rfl ?_
  refine o_nil1 8 rfl rfl ?_
  refine c_cond rfl (fun h1 => ?_) (fun h1 => ?_)
  · have hm := cd_t h1 hm
    refine c_seq ?_
    refine c_region ?_
    refine o_L (y_assign rfl) rfl rfl ?_
    refine o_nil0 rfl ?_
    refine c_ret ?_
    obtain ⟨rfl, rfl⟩ := pr2 hm
    refine fun aX wX heX hsX => ret1 Tryz.results304 heX rfl (s_take (s_take (s_take (s_take (s_take (s_take (s_take s_nil))))))) ?_
    exact ⟨rfl, rfl⟩
  · have hm := cd_f h1 hm
    refine c_skip ?_
    refine c_seq ?_
    refine c_region ?_
    refine o_T (y_move rfl) rfl ?_
    refine o_T (y_move rfl) rfl ?_
    obtain ⟨z1, hx2, hm⟩ := bd1 hm
    refine o_callC en_319 rfl (s_take s_nil) (t319 hx2) rfl (fun u2 S2 hR2 => ?_)
    obtain ⟨rfl, rfl⟩ := hR2
    refine o_rest ?_
    refine o_nil0 rfl ?_
    refine c_seq ?_
    refine c_seq ?_
    refine c_region ?_
    refine o_T (y_move rfl) rfl ?_
    refine o_T (y_move rfl) rfl ?_
    refine o_T (y_nilck rfl) rfl ?_
    refine o_T (y_fa fl_126_1 rfl) rfl ?_
    obtain ⟨_, hx3, hm⟩ := bd hm
    have hx3 := ckA_some hx3
    refine o_T (y_ia ar_121 rfl rfl hx3.1 hx3.2) rfl ?_
    refine o_T (y_fa fl_120_0 rfl) rfl ?_
    refine o_ld one_3 rfl m0 (At.got (((At.refl.comp Store.a_tab).comp (encN_a Entr.len _ _ hx3.1 _ hx3.2)).comp Entr.a_state)) rfl ?_
    refine o_T (y_eql rfl rfl) rfl ?_
    refine o_nil1 19 rfl rfl ?_
    refine c_cond rfl (fun h2 => ?_) (fun h2 => ?_)
    · have hm := cd_t h2 hm
      refine c_seq ?_
      refine c_region ?_
      refine o_T (y_move rfl) rfl ?_
      refine o_T (y_move rfl) rfl ?_
      obtain ⟨z2, hx4, hm⟩ := bd1 hm
      refine o_callC en_313 rfl (s_take (s_take (s_take (s_take (s_take (s_take s_nil)))))) (t313 ho1 ho2 ho3 ho4 hx4) rfl (fun u3 S3 hR3 => ?_)
      obtain ⟨rfl, rfl⟩ := hR3
      refine o_rest ?_
      refine o_nil0 rfl ?_
      refine c_seq ?_
      refine c_region ?_
      refine o_L (y_assign rfl) rfl rfl ?_
      refine o_nil0 rfl ?_
      refine c_ret ?_
      obtain ⟨rfl, rfl⟩ := pr2 hm
      refine fun aX wX heX hsX => ret1 Tryz.results304 heX rfl (s_take (s_take (s_take (s_take (s_take (s_take (s_take s_nil))))))) ?_
      exact ⟨rfl, rfl⟩
    · have hm := cd_f h2 hm
      refine c_skip ?_
      refine c_seq ?_
      refine c_region ?_
      refine o_T (y_move rfl) rfl ?_
      refine o_T (y_move rfl) rfl ?_
      refine o_T (y_nilck rfl) rfl ?_
      refine o_T (y_fa fl_126_1 rfl) rfl ?_
      obtain ⟨_, hx5, hm⟩ := bd hm
      have hx5 := ckA_some hx5
      refine o_T (y_ia ar_121 rfl rfl hx5.1 hx5.2) rfl ?_
      refine o_T (y_fa fl_120_0 rfl) rfl ?_
      obtain ⟨z3, hn1, hm⟩ := nm_s hm
      refine o_stN one_3 rfl rfl rfl (((Upd.z Store.u_tab).comp (encN_u Entr.len _ _ _ hx5.1 _ hx5.2)).comp Entr.u_state) r0 (show (Store.enc (.pointer (some ⟨b2, 0, none⟩)) z3) = _ from by subst hn1; rfl) ?_
      refine o_nil0 rfl ?_
      refine c_seq ?_
      refine c_region ?_
      refine o_L (y_assign rfl) rfl rfl ?_
      refine o_nil0 rfl ?_
      refine c_ret ?_
      obtain ⟨rfl, rfl⟩ := pr2 hm
      refine fun aX wX heX hsX => ret1 Tryz.results304 heX rfl (s_take (s_take (s_take (s_take (s_take (s_take (s_take s_nil))))))) ?_
      exact ⟨rfl, rfl⟩
end Go.Proofs.Qxb6500350aGreat
