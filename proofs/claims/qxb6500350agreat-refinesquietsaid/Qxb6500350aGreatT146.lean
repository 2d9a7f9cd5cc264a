/- MADE BY PROGRAM (tools350/mir.py): mirror and walk. -/
import Derived.Test.Qxb6500350aGreatF2
import Derived.Test.Qxb6500350aGreatT211
import Derived.Test.Qxb6500350aGreatT219
import Derived.Test.Qxb6500350aGreatT220
import Derived.Test.Qxb6500350aGreatT221
import Derived.Test.Qxb6500350aGreatT210
set_option linter.unusedVariables false
set_option linter.unusedSimpArgs false
set_option maxRecDepth 20000
set_option maxHeartbeats 4000000
namespace Go.Proofs.Qxb6500350aGreat
open Go.Eng

/- (*graph.Graph).Node -/
def m146_w1 (n : Nat) (g : Graph) (z2 : Com) (mm : Nat) : (List Int) → Int → Option ((List Int) × Int) := it2 (fun lp1 l3 c6 =>
cond (decide (c6 < z2.np)) (
Option.bind (ckA c6 2) fun _ =>
ob1 (m210 n g (z2.par c6)) fun c8 =>
Option.bind (apd l3 c8) fun l5 =>
lp1 l5 (wi (c6 + 1))) (
some (l3, c6))) mm
def m146 (n : Nat) (g : Graph) (t : Trees) (s : Store) (d : Dev) (seq : Int) : Option (Node × Int) :=
ob1 (m211 n g seq) fun c1 =>
cond (decide (c1 = 0)) (
nm (Node.zero : Node) fun z1 =>
some (z1, 17)) (
Option.bind (ckA c1 49) fun _ =>
nm ((g.com c1) : Com) fun z2 =>
ob3 (m219 n t s d c1) fun c2 l1 c3 =>
ob3 (m220 n l1) fun x1 c4 c5 =>
nm (x1 : Com) fun z3 =>
ob1 (m221 n g t s d z2.tree) fun l2 =>
ob2 (m146_w1 n g z2 n ([] : List Int) 0) fun l4 c7 =>
nm (({ seq := seq, files := l2, parents := l4, msg := c4 } : Node) : Node) fun z4 =>
some (z4, 0))
theorem t146 {n : Nat} {C : List Chunk} {rx1 : Node} {rc1 : Int} {b1 : Nat} {g : Graph} {b2 : Nat} {t : Trees} {b3 : Nat} {s : Store} {b4 : Nat} {d : Dev} {v1 : Value} {g1 : List Chunk} {v2 : Value} {g2 : List Chunk} {v3 : Value} {g3 : List Chunk} {v4 : Value} {g4 : List Chunk} {seq : Int} (ho1 : Own rByte v1 d.blk g1) (ho2 : Own rByte v2 d.base g2) (ho3 : Own rInt v3 d.at_ g3) (ho4 : Own rByte v4 d.data g4)  (hm : m146 n g t s d seq = some (rx1, rc1)) : Trip Tryz.prog 146 #[.pointer (some ⟨b1, 0, none⟩), .int .i64 seq] ([[(b1, .cells (Graph.enc (.pointer (some ⟨b2, 0, none⟩)) g).toArray 179 (0, 0))], [(b2, .cells (Trees.enc (.pointer (some ⟨b3, 0, none⟩)) t).toArray 169 (0, 0))], [(b3, .cells (Store.enc (.pointer (some ⟨b4, 0, none⟩)) s).toArray 126 (0, 0))], [(b4, .cells (Dev.enc (v1) (v2) (v3) (v4) d).toArray 85 (0, 0))], g1, g2, g3, g4] ++ [C]) (fun u S' => ∃ (ev1 : Value), ∃ (eg1 : List Chunk), ∃ (ev2 : Value), ∃ (eg2 : List Chunk), .tuple #[.agg (Node.enc (ev1) (ev2) rx1).toArray, .int .i64 rc1] = u ∧ S' = [[(b1, .cells (Graph.enc (.pointer (some ⟨b2, 0, none⟩)) g).toArray 179 (0, 0))], [(b2, .cells (Trees.enc (.pointer (some ⟨b3, 0, none⟩)) t).toArray 169 (0, 0))], [(b3, .cells (Store.enc (.pointer (some ⟨b4, 0, none⟩)) s).toArray 126 (0, 0))], [(b4, .cells (Dev.enc (v1) (v2) (v3) (v4) d).toArray 85 (0, 0))], g1, g2, g3, g4, eg1, eg2] ++ [C] ∧ Own rFile ev1 rx1.files eg1 ∧ Own rInt ev2 rx1.parents eg2) := by
  refine fn_entry (args := [.pointer (some ⟨b1, 0, none⟩), .int .i64 seq]) Tryz.func146 rfl Tryz.ntmps146 rfl (fun w0 => ?_)
  refine c_seq ?_
  refine c_region ?_
  refine o_alloc ze_93 rfl rfl (fun b5 => ?_)
  have ho5 : Own rFile (.slice none 0 0) [] [] := Own.nil
  refine o_emp ?_
  have ho6 : Own rInt (.slice none 0 0) [] [] := Own.nil
  refine o_emp ?_
  refine o_L (y_assign rfl) rfl rfl ?_
  refine o_nil0 rfl ?_
  refine c_seq ?_
  refine c_region ?_
  refine o_T (y_move rfl) rfl ?_
  refine o_T (y_move rfl) rfl ?_
  obtain ⟨c1, hx1, hm⟩ := bd1 hm
  refine o_callC en_211 rfl (s_skip (s_skip (s_skip (s_take s_nil)))) (t211 hx1) rfl (fun u1 S1 hR1 => ?_)
  obtain ⟨rfl, rfl⟩ := hR1
  refine o_rest ?_
  refine o_L (y_assign rfl) rfl rfl ?_
  refine o_nil0 rfl ?_
  refine c_seq ?_
  refine c_seq ?_
  refine c_region ?_
  refine o_T (y_move rfl) rfl ?_
  refine o_T (y_eql rfl rfl) rfl ?_
  refine o_nil1 22 rfl rfl ?_
  refine c_cond rfl (fun h1 => ?_) (fun h1 => ?_)
  · have hm := cd_t h1 hm
    refine c_seq ?_
    refine c_region ?_
    refine o_T (y_build st_93 rfl fbU0) rfl ?_
    have ho7 : Own rFile (.slice none 0 0) [] [] := Own.nil
    refine o_emp ?_
    have ho8 : Own rInt (.slice none 0 0) [] [] := Own.nil
    refine o_emp ?_
    obtain ⟨z1, hn1, hm⟩ := nm_s hm
    have ho9 := ho7.to (l' := z1.files) (by subst hn1; rfl)
    have ho10 := ho8.to (l' := z1.parents) (by subst hn1; rfl)
    refine o_stNA ag_93 rfl rfl (Node.plain rfl rfl _) (Node.len _ _ _) (Upd.refl ((Node.len _ _ _).trans (Node.len _ _ _).symm)) (rs (rs (rs (rs (rs r0))))) (show (Node.enc ((.slice none 0 0)) ((.slice none 0 0)) z1) = _ from by subst hn1; rfl) ?_
    refine o_L (y_assign rfl) rfl rfl ?_
    refine o_nil0 rfl ?_
    refine c_ret ?_
    obtain ⟨rfl, rfl⟩ := pr2 hm
    refine fun aX wX heX hsX => retct Tryz.results146 heX hsX rfl rfl ag_93 (ms (ms (ms (ms (ms m0))))) (by simp [Node.len]) (s_get (ks (ks k0)) (s_get (ks (ks (ks (ks (ks k0))))) (s_get (ks (ks (ks (ks (ks k0))))) (s_get (ks (ks (ks (ks (ks k0))))) (s_get (ks (ks (ks (ks (ks k0))))) (s_get (ks (ks (ks (ks (ks k0))))) (s_get (ks (ks (ks (ks (ks k0))))) (s_get (ks (ks (ks (ks (ks k0))))) (s_get (ks k0) (s_take (s_skip (s_skip (s_skip (s_take s_nil)))))))))))))) ?_
    exact ⟨(.slice none 0 0), _, (.slice none 0 0), _, rfl, rfl, ho9, ho10⟩
  · have hm := cd_f h1 hm
    refine c_skip ?_
    refine c_seq ?_
    refine c_region ?_
    refine o_T (y_move rfl) rfl ?_
    refine o_T (y_move rfl) rfl ?_
    refine o_T (y_nilck rfl) rfl ?_
    refine o_T (y_fa fl_179_1 rfl) rfl ?_
    obtain ⟨_, hx2, hm⟩ := bd hm
    have hx2 := ckA_some hx2
    refine o_T (y_ia ar_173 rfl rfl hx2.1 hx2.2) rfl ?_
    refine o_lda ag_172 rfl m0 (At.exs ((At.refl.comp Graph.a_com).comp (encN_a Com.len _ _ hx2.1 _ hx2.2)) (Com.len _)) (At.fits ((At.refl.comp Graph.a_com).comp (encN_a Com.len _ _ hx2.1 _ hx2.2)) (Com.len _)) rfl ?_
    refine o_alloc ze_172 rfl rfl (fun b6 => ?_)
    obtain ⟨z2, hn2, hm⟩ := nm_s hm
    refine o_stNA ag_172 rfl rfl (Com.plain _) (Com.len _) (Upd.refl ((Com.len _).trans (Com.len _).symm)) r0 (show (Com.enc z2) = _ from by subst hn2; rfl) ?_
    refine o_nil0 rfl ?_
    refine c_seq ?_
    refine c_region ?_
    refine o_T (y_move rfl) rfl ?_
    refine o_T (y_nilck rfl) rfl ?_
    refine o_T (y_fa fl_179_0 rfl) rfl ?_
    refine o_ld one_29 rfl (ms m0) (At.got (At.refl.comp Graph.a_t)) rfl ?_
    refine o_T (y_move rfl) rfl ?_
    obtain ⟨c2, l1, c3, hx3, hm⟩ := bd3 hm
    refine o_callC en_219 rfl (s_skip (s_skip (s_skip (s_skip (s_skip (s_take (s_take (s_take (s_take (s_take (s_take (s_take s_nil)))))))))))) (t219 ho1 ho2 ho3 ho4 hx3) rfl (fun u2 S2 hR2 => ?_)
    obtain ⟨v5, g5, rfl, rfl, ho11⟩ := hR2
    refine o_rest ?_
    refine o_T (y_move rfl) rfl ?_
    refine o_T (y_extract rfl rfl) rfl ?_
    refine o_T (y_extract rfl rfl) rfl ?_
    refine o_T (y_extract rfl rfl) rfl ?_
    refine o_L (y_assign rfl) rfl rfl ?_
    refine o_L (y_assign rfl) rfl rfl ?_
    refine o_L (y_assign rfl) rfl rfl ?_
    refine o_nil0 rfl ?_
    refine c_seq ?_
    refine c_region ?_
    refine o_T (y_move rfl) rfl ?_
    obtain ⟨x1, c4, c5, hx4, hm⟩ := bd3 hm
    refine o_callC en_220 rfl s_nil (t220 (ho11.rd.mono (fun _ hz => (ms (ms (ms (ms (ms (ms (ms (mg hz)))))))))) hx4) rfl (fun u3 S3 hR3 => ?_)
    obtain ⟨rfl, rfl⟩ := hR3
    refine o_rest ?_
    refine o_T (y_move rfl) rfl ?_
    refine o_T (y_extract rfl rfl) rfl ?_
    refine o_T (y_extract rfl rfl) rfl ?_
    refine o_T (y_extract rfl rfl) rfl ?_
    refine o_alloc ze_172 rfl rfl (fun b7 => ?_)
    obtain ⟨z3, hn3, hm⟩ := nm_s hm
    refine o_stNA ag_172 rfl rfl (Com.plain _) (Com.len _) (Upd.refl ((Com.len _).trans (Com.len _).symm)) r0 (show (Com.enc z3) = _ from by subst hn3; rfl) ?_
    refine o_L (y_assign rfl) rfl rfl ?_
    refine o_L (y_assign rfl) rfl rfl ?_
    refine o_nil0 rfl ?_
    refine c_seq ?_
    refine c_region ?_
    refine o_T (y_move rfl) rfl ?_
    refine o_T (y_fa fl_172_2 rfl) rfl ?_
    refine o_ld one_3 rfl (ms (ms (ms (ms (ms (ms (ms (ms (ms m0))))))))) (At.got (At.refl.comp Com.a_tree)) rfl ?_
    obtain ⟨l2, hx5, hm⟩ := bd1 hm
    refine o_callC en_221 rfl (s_skip (s_get (ks (ks (ks (ks (ks (ks (ks (ks (ks k0))))))))) (s_take (s_take (s_take (s_take (s_take (s_take (s_take s_nil))))))))) (t221 ho1 ho2 ho3 ho4 hx5) rfl (fun u4 S4 hR4 => ?_)
    obtain ⟨v6, g6, rfl, rfl, ho12⟩ := hR4
    refine o_rest ?_
    refine o_L (y_assign rfl) rfl rfl ?_
    refine o_nil0 rfl ?_
    refine c_seq ?_
    refine c_region ?_
    have ho13 : Own rInt (.slice none 0 0) [] [] := Own.nil
    refine o_emp ?_
    refine o_L (y_assign rfl) rfl rfl ?_
    refine o_nil0 rfl ?_
    refine c_seq ?_
    refine c_seq ?_
    refine c_region ?_
    refine o_L (y_assign rfl) rfl rfl ?_
    refine o_nil0 rfl ?_
    obtain ⟨l4, c7, hj1, hm⟩ := bd2 hm
    refine c_joinP (n := 1) (fun sh G => ∃ (v8 : Value), ∃ (g8 : List Chunk), sh = [(15, v8), (16, .int .i64 c7)] ∧ G = [g8] ∧ Own rInt v8 l4 g8) (s_take (s_take (s_take (s_take (s_take (s_take (s_take (s_take (s_take (s_take (s_skip (s_skip (s_take (s_take (s_take (s_take (s_take s_nil))))))))))))))))) (.s .z) (fun _ _ h => h) ?_ ?_
    · skip
      refine c_block ?_
      refine c_loopP (n := 1) (fun mm sh G => ∃ (l3 : List Int), ∃ (c6 : Int), ∃ (v7 : Value), ∃ (g7 : List Chunk), sh = [(15, v7), (16, .int .i64 c6)] ∧ G = [g7] ∧ m146_w1 n g z2 mm l3 c6 = some (l4, c7) ∧ Own rInt v7 l3 g7) n (s_take (s_take (s_take (s_take (s_take (s_take (s_take (s_take (s_take (s_take (s_skip (s_skip (s_take (s_take (s_take (s_take (s_take s_nil))))))))))))))))) (.s .z) ⟨_, _, ⟨_, _, (.slice none 0 0), _, rfl, rfl, hj1, ho13⟩, ⟨rfl, rfl, trivial⟩, _, (s_take (s_take (s_take (s_take (s_take (s_take (s_take (s_take (s_take (s_take (s_skip (s_skip (s_take (s_take (s_take (s_take (s_take s_nil)))))))))))))))))⟩ ?_
      rintro mm sh G ⟨l3, c6, v7, g7, rfl, rfl, hm, ho14⟩
      obtain ⟨mm1, rfl, hm⟩ := it2_s hm
      refine c_seq ?_
      refine c_seq ?_
      refine c_region ?_
      refine o_T (y_move rfl) rfl ?_
      refine o_T (y_fa fl_172_3 rfl) rfl ?_
      refine o_ld one_3 rfl (ms (ms (ms (ms (ms (ms (ms (ms (ms (ms m0)))))))))) (At.got (At.refl.comp Com.a_np)) rfl ?_
      refine o_T (y_lss rfl rfl) rfl ?_
      refine o_nil1 53 rfl rfl ?_
      refine c_cond rfl (fun h2 => ?_) (fun h2 => ?_)
      · have hm := cd_t h2 hm
        refine c_skip ?_
        refine c_seq ?_
        refine c_block ?_
        refine c_seq ?_
        refine c_region ?_
        refine o_T (y_move rfl) rfl ?_
        refine o_T (y_move rfl) rfl ?_
        refine o_T (y_fa fl_172_4 rfl) rfl ?_
        obtain ⟨_, hx6, hm⟩ := bd hm
        have hx6 := ckA_some hx6
        refine o_T (y_ia ar_170 rfl rfl hx6.1 hx6.2) rfl ?_
        refine o_ld one_3 rfl (ms (ms (ms (ms (ms (ms (ms (ms (ms (ms m0)))))))))) (At.got ((At.refl.comp Com.a_par).comp (encN_a encI_len _ _ hx6.1 _ hx6.2))) rfl ?_
        obtain ⟨c8, hx7, hm⟩ := bd1 hm
        refine o_callC en_210 rfl (s_skip (s_take s_nil)) (t210 hx7) rfl (fun u5 S5 hR5 => ?_)
        obtain ⟨rfl, rfl⟩ := hR5
        refine o_rest ?_
        refine o_L (y_assign rfl) rfl rfl ?_
        refine o_nil0 rfl ?_
        refine c_region ?_
        refine o_T (y_move rfl) rfl ?_
        refine o_T (y_move rfl) rfl ?_
        refine o_bs1 sz_65 rfl rfl rfl rfl rfl rfl (fun b8 => ?_)
        obtain ⟨l5, hx8, hm⟩ := bd hm
        refine o_appR (R := rInt) (a := c8) sz_65 rfl rfl rfl rfl ho14 rfl hx8 (Sel.e (s_get (ks (ks k0)) (s_take s_nil))) rfl (fun v9 g9 ho16 => ?_)
        refine o_L (y_assign rfl) rfl rfl ?_
        refine o_nil0 rfl ?_
        refine c_region ?_
        refine o_T (y_move rfl) rfl ?_
        refine o_T (y_add rfl rfl rfl) rfl ?_
        refine o_L (y_assign rfl) rfl rfl ?_
        refine o_nil0 rfl ?_
        exact ⟨mm1, Nat.lt_succ_self _, _, _, ⟨_, _, v9, _, rfl, rfl, hm, ho16⟩, ⟨rfl, rfl, trivial⟩, ⟨rfl, rfl⟩, _, (s_take (s_take (s_take (s_take (s_take (s_take (s_take (s_take (s_take (s_take (s_take (s_take (s_take (s_take (s_take s_nil)))))))))))))))⟩
      · have hm := cd_f h2 hm
        refine c_exit ?_
        obtain ⟨rfl, rfl⟩ := pr2 hm
        exact ⟨_, _, ⟨v7, _, rfl, rfl, ho14⟩, ⟨rfl, rfl, trivial⟩, ⟨rfl, rfl⟩, _, (s_take (s_take (s_take (s_take (s_take (s_take (s_take (s_take (s_take (s_take (s_take (s_take (s_take (s_take (s_take s_nil)))))))))))))))⟩
    · rintro sh G ⟨v8, g8, rfl, rfl, ho15⟩
      refine c_seq ?_
      refine c_region ?_
      refine o_T (y_move rfl) rfl ?_
      refine o_T (y_move rfl) rfl ?_
      refine o_T (y_move rfl) rfl ?_
      refine o_T (y_move rfl) rfl ?_
      refine o_T (y_build st_93 rfl (fbU rfl Node.u_seq rfl rfl (fbU rfl Node.u_files (cells1 ho12.pl) rfl (fbU rfl Node.u_parents (cells1 ho15.pl) rfl (fbU rfl Node.u_msg rfl rfl fbU0))))) rfl ?_
      obtain ⟨z4, hn4, hm⟩ := nm_s hm
      have ho17 := ho12.to (l' := z4.files) (by subst hn4; rfl)
      have ho18 := ho15.to (l' := z4.parents) (by subst hn4; rfl)
      refine o_stNA ag_93 rfl rfl (Node.plain ho12.pl ho15.pl _) (Node.len _ _ _) (Upd.refl ((Node.len _ _ _).trans (Node.len _ _ _).symm)) (rs (rs (rs (rs (rs (rs (rs (rs (rs (rs (rs (rs (rs r0))))))))))))) (show (Node.enc (v6) (v8) z4) = _ from by subst hn4; rfl) ?_
      refine o_L (y_assign rfl) rfl rfl ?_
      refine o_nil0 rfl ?_
      refine c_ret ?_
      obtain ⟨rfl, rfl⟩ := pr2 hm
      refine fun aX wX heX hsX => retct Tryz.results146 heX hsX rfl rfl ag_93 (ms (ms (ms (ms (ms (ms (ms (ms (ms (ms (ms (ms (ms m0))))))))))))) (by simp [Node.len]) (s_get (ks k0) (s_get (ks k0) (s_get (ks k0) (s_get (ks k0) (s_get (ks k0) (s_get (ks k0) (s_get (ks k0) (s_get (ks k0) (s_get (ks k0) (s_take (s_skip (s_skip (s_skip (s_skip (s_take s_nil))))))))))))))) ?_
      exact ⟨v6, _, v8, _, rfl, rfl, ho17, ho18⟩
end Go.Proofs.Qxb6500350aGreat
