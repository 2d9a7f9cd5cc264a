/- MADE BY PROGRAM (tools350/mir.py): mirror and walk. -/
import Derived.Test.Qxb6500350aGreatF2
import Derived.Test.Qxb6500350aGreatT319
import Derived.Test.Qxb6500350aGreatT313
import Derived.Test.Qxb6500350aGreatT166
set_option linter.unusedVariables false
set_option linter.unusedSimpArgs false
set_option maxRecDepth 20000
set_option maxHeartbeats 4000000
namespace Go.Proofs.Qxb6500350aGreat
open Go.Eng

/- (*objects.Store).Abort -/
def m303_w1 (n : Nat) (d : Dev) (mm : Nat) : Int → Store → Option (Int × Store) := it2 (fun lp1 c1 z1 =>
cond (decide (c1 ≤ 48)) (
Option.bind (ckA c1 49) fun _ =>
cond (decide ((z1.tab c1).state = 1)) (
ob1 (m319 n z1 c1) fun z3 =>
ob1 (m313 n z3 d c1) fun z4 =>
lp1 (wi (c1 + 1)) z4) (
Option.bind (ckA c1 49) fun _ =>
cond (decide ((z1.tab c1).state = 3)) (
Option.bind (ckA c1 49) fun _ =>
nm ({ z1 with tab := (upI z1.tab c1 { (z1.tab c1) with state := 2 }) } : Store) fun z5 =>
ob1 (m166 n z5 c1) fun z6 =>
lp1 (wi (c1 + 1)) z6) (
lp1 (wi (c1 + 1)) z1))) (
some (c1, z1))) mm
def m303 (n : Nat) (s : Store) (d : Dev) : Option (Store) :=
ob2 (m303_w1 n d n 1 s) fun c2 z2 =>
some z2
theorem t303 {n : Nat} {C : List Chunk} {rz1 : Store} {b1 : Nat} {s : Store} {b2 : Nat} {d : Dev} {v1 : Value} {g1 : List Chunk} {v2 : Value} {g2 : List Chunk} {v3 : Value} {g3 : List Chunk} {v4 : Value} {g4 : List Chunk} (ho1 : Own rByte v1 d.blk g1) (ho2 : Own rByte v2 d.base g2) (ho3 : Own rInt v3 d.at_ g3) (ho4 : Own rByte v4 d.data g4)  (hm : m303 n s d = some rz1) : Trip Tryz.prog 303 #[.pointer (some ⟨b1, 0, none⟩)] ([[(b1, .cells (Store.enc (.pointer (some ⟨b2, 0, none⟩)) s).toArray 126 (0, 0))], [(b2, .cells (Dev.enc (v1) (v2) (v3) (v4) d).toArray 85 (0, 0))], g1, g2, g3, g4] ++ [C]) (fun u S' => .tuple #[] = u ∧ S' = [[(b1, .cells (Store.enc (.pointer (some ⟨b2, 0, none⟩)) rz1).toArray 126 (0, 0))], [(b2, .cells (Dev.enc (v1) (v2) (v3) (v4) d).toArray 85 (0, 0))], g1, g2, g3, g4] ++ [C]) := by
  refine fn_entry (args := [.pointer (some ⟨b1, 0, none⟩)]) Tryz.func303 rfl Tryz.ntmps303 rfl (fun w0 => ?_)
  refine c_seq ?_
  refine c_region ?_
  refine o_L (y_assign rfl) rfl rfl ?_
  refine o_nil0 rfl ?_
  obtain ⟨c2, z2, hj1, hm⟩ := bd2 hm
  have hk1 := hm
  refine c_block ?_
  refine c_loopP (n := 1) (fun mm sh G => ∃ (c1 : Int), ∃ (z1 : Store), sh = [(2, .int .i64 c1)] ∧ G = [[(b1, .cells (Store.enc (.pointer (some ⟨b2, 0, none⟩)) z1).toArray 126 (0, 0))]] ∧ m303_w1 n d mm c1 z1 = some (c2, z2)) n (s_take (s_take (s_take (s_take (s_take (s_take (s_take s_nil))))))) (.s .z) ⟨_, _, ⟨_, _, rfl, rfl, hj1⟩, ⟨rfl, trivial⟩, _, (s_take (s_take (s_take (s_take (s_take (s_take (s_take s_nil)))))))⟩ ?_
  rintro mm sh G ⟨c1, z1, rfl, rfl, hm⟩
  obtain ⟨mm1, rfl, hm⟩ := it2_s hm
  refine c_seq ?_
  refine c_seq ?_
  refine c_region ?_
  refine o_T (y_move rfl) rfl ?_
  refine o_T (y_leq rfl rfl) rfl ?_
  refine o_nil1 4 rfl rfl ?_
  refine c_cond rfl (fun h1 => ?_) (fun h1 => ?_)
  · have hm := cd_t h1 hm
    refine c_skip ?_
    refine c_seq ?_
    refine c_block ?_
    refine c_seq ?_
    refine c_region ?_
    refine o_T (y_move rfl) rfl ?_
    refine o_T (y_move rfl) rfl ?_
    refine o_T (y_nilck rfl) rfl ?_
    refine o_T (y_fa fl_126_1 rfl) rfl ?_
    obtain ⟨_, hx1, hm⟩ := bd hm
    have hx1 := ckA_some hx1
    refine o_T (y_ia ar_121 rfl rfl hx1.1 hx1.2) rfl ?_
    refine o_T (y_fa fl_120_0 rfl) rfl ?_
    refine o_ld one_3 rfl m0 (At.got (((At.refl.comp Store.a_tab).comp (encN_a Entr.len _ _ hx1.1 _ hx1.2)).comp Entr.a_state)) rfl ?_
    refine o_T (y_eql rfl rfl) rfl ?_
    refine o_nil1 14 rfl rfl ?_
    refine c_cond rfl (fun h2 => ?_) (fun h2 => ?_)
    · have hm := cd_t h2 hm
      refine c_seq ?_
      refine c_region ?_
      refine o_T (y_move rfl) rfl ?_
      refine o_T (y_move rfl) rfl ?_
      obtain ⟨z3, hx2, hm⟩ := bd1 hm
      refine o_callC en_319 rfl (s_take s_nil) (t319 hx2) rfl (fun u1 S1 hR1 => ?_)
      obtain ⟨rfl, rfl⟩ := hR1
      refine o_rest ?_
      refine o_nil0 rfl ?_
      refine c_region ?_
      refine o_T (y_move rfl) rfl ?_
      refine o_T (y_move rfl) rfl ?_
      obtain ⟨z4, hx3, hm⟩ := bd1 hm
      refine o_callC en_313 rfl (s_take (s_take (s_take (s_take (s_take (s_take s_nil)))))) (t313 ho1 ho2 ho3 ho4 hx3) rfl (fun u2 S2 hR2 => ?_)
      obtain ⟨rfl, rfl⟩ := hR2
      refine o_rest ?_
      refine o_nil0 rfl ?_
      refine c_region ?_
      refine o_T (y_move rfl) rfl ?_
      refine o_T (y_add rfl rfl rfl) rfl ?_
      refine o_L (y_assign rfl) rfl rfl ?_
      refine o_nil0 rfl ?_
      exact ⟨mm1, Nat.lt_succ_self _, _, _, ⟨_, _, rfl, rfl, hm⟩, ⟨rfl, trivial⟩, ⟨rfl, rfl⟩, _, (s_take (s_take (s_take (s_take (s_take (s_take (s_take s_nil)))))))⟩
    · have hm := cd_f h2 hm
      refine c_seq ?_
      refine c_region ?_
      refine o_T (y_move rfl) rfl ?_
      refine o_T (y_move rfl) rfl ?_
      refine o_T (y_nilck rfl) rfl ?_
      refine o_T (y_fa fl_126_1 rfl) rfl ?_
      obtain ⟨_, hx4, hm⟩ := bd hm
      have hx4 := ckA_some hx4
      refine o_T (y_ia ar_121 rfl rfl hx4.1 hx4.2) rfl ?_
      refine o_T (y_fa fl_120_0 rfl) rfl ?_
      refine o_ld one_3 rfl m0 (At.got (((At.refl.comp Store.a_tab).comp (encN_a Entr.len _ _ hx4.1 _ hx4.2)).comp Entr.a_state)) rfl ?_
      refine o_T (y_eql rfl rfl) rfl ?_
      refine o_nil1 28 rfl rfl ?_
      refine c_cond rfl (fun h3 => ?_) (fun h3 => ?_)
      · have hm := cd_t h3 hm
        refine c_seq ?_
        refine c_region ?_
        refine o_T (y_move rfl) rfl ?_
        refine o_T (y_move rfl) rfl ?_
        refine o_T (y_nilck rfl) rfl ?_
        refine o_T (y_fa fl_126_1 rfl) rfl ?_
        obtain ⟨_, hx5, hm⟩ := bd hm
        have hx5 := ckA_some hx5
        refine o_T (y_ia ar_121 rfl rfl hx5.1 hx5.2) rfl ?_
        refine o_T (y_fa fl_120_0 rfl) rfl ?_
        obtain ⟨z5, hn1, hm⟩ := nm_s hm
        refine o_stN one_3 rfl rfl rfl (((Upd.z Store.u_tab).comp (encN_u Entr.len _ _ _ hx5.1 _ hx5.2)).comp Entr.u_state) r0 (show (Store.enc (.pointer (some ⟨b2, 0, none⟩)) z5) = _ from by subst hn1; rfl) ?_
        refine o_nil0 rfl ?_
        refine c_region ?_
        refine o_T (y_move rfl) rfl ?_
        refine o_T (y_move rfl) rfl ?_
        obtain ⟨z6, hx6, hm⟩ := bd1 hm
        refine o_callC en_166 rfl (s_take s_nil) (t166 hx6) rfl (fun u3 S3 hR3 => ?_)
        obtain ⟨rfl, rfl⟩ := hR3
        refine o_rest ?_
        refine o_nil0 rfl ?_
        refine c_region ?_
        refine o_T (y_move rfl) rfl ?_
        refine o_T (y_add rfl rfl rfl) rfl ?_
        refine o_L (y_assign rfl) rfl rfl ?_
        refine o_nil0 rfl ?_
        exact ⟨mm1, Nat.lt_succ_self _, _, _, ⟨_, _, rfl, rfl, hm⟩, ⟨rfl, trivial⟩, ⟨rfl, rfl⟩, _, (s_take (s_take (s_take (s_take (s_take (s_take (s_take s_nil)))))))⟩
      · have hm := cd_f h3 hm
        refine c_skip ?_
        refine c_region ?_
        refine o_T (y_move rfl) rfl ?_
        refine o_T (y_add rfl rfl rfl) rfl ?_
        refine o_L (y_assign rfl) rfl rfl ?_
        refine o_nil0 rfl ?_
        exact ⟨mm1, Nat.lt_succ_self _, _, _, ⟨_, _, rfl, rfl, hm⟩, ⟨rfl, trivial⟩, ⟨rfl, rfl⟩, _, (s_take (s_take (s_take (s_take (s_take (s_take (s_take s_nil)))))))⟩
  · have hm := cd_f h1 hm
    refine c_exit ?_
    obtain ⟨rfl, rfl⟩ := pr2 hm
    have hm := hk1
    obtain rfl := p1 hm
    refine fun aX wX heX hsX => ret0 Tryz.results303 (s_take (s_take (s_take (s_take (s_take (s_take (s_take s_nil))))))) ?_
    exact ⟨rfl, rfl⟩
end Go.Proofs.Qxb6500350aGreat
