/- MADE BY PROGRAM (tools350/mir.py): mirror and walk. -/
import Derived.Test.Qxb6500350aGreatF2
import Derived.Test.Qxb6500350aGreatT242
import Derived.Test.Qxb6500350aGreatT163
import Derived.Test.Qxb6500350aGreatT243
set_option linter.unusedVariables false
set_option linter.unusedSimpArgs false
set_option maxRecDepth 20000
set_option maxHeartbeats 4000000
namespace Go.Proofs.Qxb6500350aGreat
open Go.Eng

/- (*objects.Store).release -/
def m313_w1 (n : Nat) (d : Dev) (mm : Nat) : Int → Int → Store → Option (Int × Int × Store) := it3 (fun lp1 c1 c2 z1 =>
cond ((decide (c2 < 3)) && (decide (¬ (c1 = 0)))) (
ob1 (m242 n z1 c1 false) fun z3 =>
ob1 (m163 n z3 d c1) fun l1 =>
ob1 (m243 n l1) fun c5 =>
lp1 c5 (wi (c2 + 1)) z3) (
some (c1, c2, z1))) mm
def m313 (n : Nat) (s : Store) (d : Dev) (id : Int) : Option (Store) :=
Option.bind (ckA id 49) fun _ =>
ob3 (m313_w1 n d n ((s.tab id).first) 0 s) fun c3 c4 z2 =>
Option.bind (ckA id 49) fun _ =>
nm ({ z2 with tab := (upI z2.tab id Entr.zero) } : Store) fun z4 =>
nm ({ z4 with nfree := (wi (z4.nfree + 1)) } : Store) fun z5 =>
some z5
theorem t313 {n : Nat} {C : List Chunk} {rz1 : Store} {b1 : Nat} {s : Store} {b2 : Nat} {d : Dev} {v1 : Value} {g1 : List Chunk} {v2 : Value} {g2 : List Chunk} {v3 : Value} {g3 : List Chunk} {v4 : Value} {g4 : List Chunk} {id : Int} (ho1 : Own rByte v1 d.blk g1) (ho2 : Own rByte v2 d.base g2) (ho3 : Own rInt v3 d.at_ g3) (ho4 : Own rByte v4 d.data g4)  (hm : m313 n s d id = some rz1) : Trip Tryz.prog 313 #[.pointer (some ⟨b1, 0, none⟩), .int .i64 id] ([[(b1, .cells (Store.enc (.pointer (some ⟨b2, 0, none⟩)) s).toArray 126 (0, 0))], [(b2, .cells (Dev.enc (v1) (v2) (v3) (v4) d).toArray 85 (0, 0))], g1, g2, g3, g4] ++ [C]) (fun u S' => .tuple #[] = u ∧ S' = [[(b1, .cells (Store.enc (.pointer (some ⟨b2, 0, none⟩)) rz1).toArray 126 (0, 0))], [(b2, .cells (Dev.enc (v1) (v2) (v3) (v4) d).toArray 85 (0, 0))], g1, g2, g3, g4] ++ [C]) := by
  refine fn_entry (args := [.pointer (some ⟨b1, 0, none⟩), .int .i64 id]) Tryz.func313 rfl Tryz.ntmps313 rfl (fun w0 => ?_)
  refine c_seq ?_
  refine c_region ?_
  refine o_T (y_move rfl) rfl ?_
  refine o_T (y_move rfl) rfl ?_
  refine o_T (y_nilck rfl) rfl ?_
  refine o_T (y_fa fl_126_1 rfl) rfl ?_
  obtain ⟨_, hx1, hm⟩ := bd hm
  have hx1 := ckA_some hx1
  refine o_T (y_ia ar_121 rfl rfl hx1.1 hx1.2) rfl ?_
  refine o_T (y_fa fl_120_3 rfl) rfl ?_
  refine o_ld one_3 rfl m0 (At.got (((At.refl.comp Store.a_tab).comp (encN_a Entr.len _ _ hx1.1 _ hx1.2)).comp Entr.a_first)) rfl ?_
  refine o_L (y_assign rfl) rfl rfl ?_
  refine o_nil0 rfl ?_
  refine c_seq ?_
  refine c_seq ?_
  refine c_region ?_
  refine o_L (y_assign rfl) rfl rfl ?_
  refine o_nil0 rfl ?_
  obtain ⟨c3, c4, z2, hj1, hm⟩ := bd3 hm
  refine c_joinP (n := 1) (fun sh G => sh = [(4, .int .i64 c3), (5, .int .i64 c4)] ∧ G = [[(b1, .cells (Store.enc (.pointer (some ⟨b2, 0, none⟩)) z2).toArray 126 (0, 0))]]) (s_take (s_take (s_take (s_take (s_take (s_take (s_take s_nil))))))) (.s .z) (fun _ _ h => h) ?_ ?_
  · skip
    refine c_block ?_
    refine c_loopP (n := 1) (fun mm sh G => ∃ (c1 : Int), ∃ (c2 : Int), ∃ (z1 : Store), sh = [(4, .int .i64 c1), (5, .int .i64 c2)] ∧ G = [[(b1, .cells (Store.enc (.pointer (some ⟨b2, 0, none⟩)) z1).toArray 126 (0, 0))]] ∧ m313_w1 n d mm c1 c2 z1 = some (c3, c4, z2)) n (s_take (s_take (s_take (s_take (s_take (s_take (s_take s_nil))))))) (.s .z) ⟨_, _, ⟨_, _, _, rfl, rfl, hj1⟩, ⟨rfl, rfl, trivial⟩, _, (s_take (s_take (s_take (s_take (s_take (s_take (s_take s_nil)))))))⟩ ?_
    rintro mm sh G ⟨c1, c2, z1, rfl, rfl, hm⟩
    obtain ⟨mm1, rfl, hm⟩ := it3_s hm
    refine c_seq ?_
    refine c_seq ?_
    refine c_joinP (n := 0) (fun sh G => sh = [(19, .bool ((decide (c2 < 3)) && (decide (¬ (c1 = 0)))))] ∧ G = []) Sel.all' .z (fun _ _ h => h) ?_ ?_
    · skip
      refine c_region ?_
      refine o_T (y_move rfl) rfl ?_
      refine o_T (y_lss rfl rfl) rfl ?_
      refine o_T (y_move rfl) rfl ?_
      refine o_split 16 rfl (fun h1 => ?_) (fun h1 => ?_)
      · skip
        refine o_take rfl rfl rfl ?_
        refine o_T (y_move rfl) rfl ?_
        refine o_take rfl rfl rfl ?_
        refine o_T (y_neq rfl rfl) rfl ?_
        refine o_T (y_pickT rfl rfl) rfl ?_
        refine o_nil1 19 rfl rfl ?_
        refine ⟨_, _, ⟨rfl, rfl⟩, ⟨by first | rfl | exact gtb rfl (by simp only [h1, Bool.true_and, Bool.false_and, Bool.true_or, Bool.false_or, Bool.and_true, Bool.and_false, Bool.or_true, Bool.or_false, Bool.not_true, Bool.not_false]), trivial⟩, ⟨rfl, rfl⟩, _, (s_take (s_take (s_take (s_take (s_take (s_take (s_take s_nil)))))))⟩
      · skip
        refine o_pass rfl rfl rfl rfl rfl ?_
        refine o_pass rfl rfl rfl rfl rfl ?_
        refine o_T (y_pickF rfl rfl) rfl ?_
        refine o_nil1 19 rfl rfl ?_
        refine ⟨_, _, ⟨rfl, rfl⟩, ⟨by first | rfl | exact gtb rfl (by simp only [h1, Bool.true_and, Bool.false_and, Bool.true_or, Bool.false_or, Bool.and_true, Bool.and_false, Bool.or_true, Bool.or_false, Bool.not_true, Bool.not_false]), trivial⟩, ⟨rfl, rfl⟩, _, (s_take (s_take (s_take (s_take (s_take (s_take (s_take s_nil)))))))⟩
    · rintro sh G ⟨rfl, rfl⟩
      refine c_cond rfl (fun h2 => ?_) (fun h2 => ?_)
      · have hm := cd_t h2 hm
        refine c_skip ?_
        refine c_seq ?_
        refine c_block ?_
        refine c_seq ?_
        refine c_region ?_
        refine o_T (y_move rfl) rfl ?_
        refine o_T (y_move rfl) rfl ?_
        obtain ⟨z3, hx2, hm⟩ := bd1 hm
        refine o_callC en_242 rfl (s_take s_nil) (t242 hx2) rfl (fun u1 S1 hR1 => ?_)
        obtain ⟨rfl, rfl⟩ := hR1
        refine o_rest ?_
        refine o_nil0 rfl ?_
        refine c_seq ?_
        refine c_region ?_
        refine o_T (y_move rfl) rfl ?_
        refine o_T (y_move rfl) rfl ?_
        obtain ⟨l1, hx3, hm⟩ := bd1 hm
        refine o_callC en_163 rfl (s_take (s_take (s_take (s_take (s_take (s_take s_nil)))))) (t163 ho1 ho2 ho3 ho4 hx3) rfl (fun u2 S2 hR2 => ?_)
        obtain ⟨v5, g5, rfl, rfl, ho5⟩ := hR2
        refine o_rest ?_
        refine o_L (y_assign rfl) rfl rfl ?_
        refine o_nil0 rfl ?_
        refine c_region ?_
        refine o_T (y_move rfl) rfl ?_
        obtain ⟨c5, hx4, hm⟩ := bd1 hm
        refine o_callC en_243 rfl s_nil (t243 (ho5.rd.mono (fun _ hz => (ms (ms (ms (ms (ms (ms (mg hz))))))))) hx4) rfl (fun u3 S3 hR3 => ?_)
        obtain ⟨rfl, rfl⟩ := hR3
        refine o_rest ?_
        refine o_L (y_assign rfl) rfl rfl ?_
        refine o_nil0 rfl ?_
        refine c_region ?_
        refine o_T (y_move rfl) rfl ?_
        refine o_T (y_add rfl rfl rfl) rfl ?_
        refine o_L (y_assign rfl) rfl rfl ?_
        refine o_nil0 rfl ?_
        exact ⟨mm1, Nat.lt_succ_self _, _, _, ⟨_, _, _, rfl, rfl, hm⟩, ⟨rfl, rfl, trivial⟩, ⟨rfl, rfl⟩, _, (s_take (s_take (s_take (s_take (s_take (s_take (s_skip (s_take s_nil))))))))⟩
      · have hm := cd_f h2 hm
        refine c_exit ?_
        obtain ⟨rfl, rfl, rfl⟩ := pr3 hm
        exact ⟨_, _, ⟨rfl, rfl⟩, ⟨rfl, rfl, trivial⟩, ⟨rfl, rfl⟩, _, (s_take (s_take (s_take (s_take (s_take (s_take (s_take s_nil)))))))⟩
  · rintro sh G ⟨rfl, rfl⟩
    refine c_seq ?_
    refine c_region ?_
    refine o_T (y_move rfl) rfl ?_
    refine o_T (y_move rfl) rfl ?_
    refine o_T (y_build st_120 rfl fbU0) rfl ?_
    refine o_T (y_nilck rfl) rfl ?_
    refine o_T (y_fa fl_126_1 rfl) rfl ?_
    obtain ⟨_, hx5, hm⟩ := bd hm
    have hx5 := ckA_some hx5
    refine o_T (y_ia ar_121 rfl rfl hx5.1 hx5.2) rfl ?_
    obtain ⟨z4, hn1, hm⟩ := nm_s hm
    refine o_stNA ag_120 rfl rfl (Entr.plain _) (Entr.len _) ((Upd.z Store.u_tab).comp (encN_u Entr.len _ _ _ hx5.1 _ hx5.2)) r0 (show (Store.enc (.pointer (some ⟨b2, 0, none⟩)) z4) = _ from by subst hn1; rfl) ?_
    refine o_nil0 rfl ?_
    refine c_region ?_
    refine o_T (y_move rfl) rfl ?_
    refine o_T (y_nilck rfl) rfl ?_
    refine o_T (y_fa fl_126_4 rfl) rfl ?_
    refine o_ld one_3 rfl m0 (At.got (At.refl.comp Store.a_nfree)) rfl ?_
    refine o_T (y_add rfl rfl rfl) rfl ?_
    refine o_T (y_nilck rfl) rfl ?_
    refine o_T (y_fa fl_126_4 rfl) rfl ?_
    obtain ⟨z5, hn2, hm⟩ := nm_s hm
    refine o_stN one_3 rfl rfl rfl (Upd.z Store.u_nfree) r0 (show (Store.enc (.pointer (some ⟨b2, 0, none⟩)) z5) = _ from by subst hn2; rfl) ?_
    refine o_nil0 rfl ?_
    obtain rfl := p1 hm
    refine fun aX wX heX hsX => ret0 Tryz.results313 (s_take (s_take (s_take (s_take (s_take (s_take (s_take s_nil))))))) ?_
    exact ⟨rfl, rfl⟩
end Go.Proofs.Qxb6500350aGreat
