/- MADE BY PROGRAM (tools350/mir.py): mirror and walk. -/
import Derived.Test.Qxb6500350aGreatF2
import Derived.Test.Qxb6500350aGreatT99
import Derived.Test.Qxb6500350aGreatT100
import Derived.Test.Qxb6500350aGreatT101
import Derived.Test.Qxb6500350aGreatSp
set_option linter.unusedVariables false
set_option linter.unusedSimpArgs false
set_option maxRecDepth 20000
set_option maxHeartbeats 4000000
namespace Go.Proofs.Qxb6500350aGreat
open Go.Eng

/- towerlaw.SameShow -/
def m38 (n : Nat) (r : RepoR) (g : Graph) (t : Trees) (s : Store) (d : Dev) (m : RepoM) (seq : Int) (once : Bool) : Option (Bool) :=
ob2 (m99 n r g t s d seq) fun x1 c1 =>
nm (x1 : Node) fun z1 =>
ob2 (m100 n m seq) fun x2 c2 =>
nm (x2 : Node) fun z2 =>
ob1 (m101 n z1 z2) fun c3 =>
cond once (
Option.bind (m97 n z1.files) fun _ =>
Option.bind (m82 n z1.parents) fun _ =>
some (c3 && (decide (c1 = c2)))) (
ob2 (m99 n r g t s d seq) fun x3 c4 =>
nm (x3 : Node) fun z3 =>
ob2 (m99 n r g t s d seq) fun x4 c5 =>
nm (x4 : Node) fun z4 =>
Option.bind (m97 n z1.files) fun _ =>
Option.bind (m82 n z1.parents) fun _ =>
ob1 (m101 n z3 z2) fun c6 =>
Option.bind (m97 n z3.files) fun _ =>
Option.bind (m82 n z3.parents) fun _ =>
ob1 (m101 n z4 z2) fun c7 =>
Option.bind (m97 n z4.files) fun _ =>
Option.bind (m82 n z4.parents) fun _ =>
some (((((c3 && c6) && c7) && (decide (c1 = c2))) && (decide (c4 = c2))) && (decide (c5 = c2))))
theorem t38 {n : Nat} {C : List Chunk} {rc1 : Bool} {b1 : Nat} {r : RepoR} {b2 : Nat} {g : Graph} {b3 : Nat} {t : Trees} {b4 : Nat} {s : Store} {b5 : Nat} {d : Dev} {v1 : Value} {g1 : List Chunk} {v2 : Value} {g2 : List Chunk} {v3 : Value} {g3 : List Chunk} {v4 : Value} {g4 : List Chunk} {q1 : Option Addr} {q2 : Option Addr} {b6 : Nat} {m : RepoM} {v5 : Value} {g5 : List Chunk} {v6 : Value} {g6 : List Chunk} {v7 : Value} {g7 : List Chunk} {v8 : Value} {g8 : List Chunk} {seq : Int} {once : Bool} (ho1 : Own rByte v1 d.blk g1) (ho2 : Own rByte v2 d.base g2) (ho3 : Own rInt v3 d.at_ g3) (ho4 : Own rByte v4 d.data g4) (ho5 : Own rNode v5 m.nodes g5) (ho6 : Own rRef_ v6 m.refs g6) (ho7 : Own rFile v7 m.index g7) (ho8 : Own rFile v8 m.work g8)  (hm : m38 n r g t s d m seq once = some rc1) : Trip Tryz.prog 38 #[.pointer (some ⟨b1, 0, none⟩), .pointer (some ⟨b6, 0, none⟩), .int .i64 seq, .bool once] ([[(b1, .cells (RepoR.enc (.pointer (some ⟨b2, 0, none⟩)) ((.pointer q1)) ((.pointer q2)) r).toArray 130 (0, 0))], [(b2, .cells (Graph.enc (.pointer (some ⟨b3, 0, none⟩)) g).toArray 179 (0, 0))], [(b3, .cells (Trees.enc (.pointer (some ⟨b4, 0, none⟩)) t).toArray 169 (0, 0))], [(b4, .cells (Store.enc (.pointer (some ⟨b5, 0, none⟩)) s).toArray 126 (0, 0))], [(b5, .cells (Dev.enc (v1) (v2) (v3) (v4) d).toArray 85 (0, 0))], g1, g2, g3, g4, [(b6, .cells (RepoM.enc (v5) (v6) (v7) (v8) m).toArray 59 (0, 0))], g5, g6, g7, g8] ++ [C]) (fun u S' => .bool rc1 = u ∧ S' = [[(b1, .cells (RepoR.enc (.pointer (some ⟨b2, 0, none⟩)) ((.pointer q1)) ((.pointer q2)) r).toArray 130 (0, 0))], [(b2, .cells (Graph.enc (.pointer (some ⟨b3, 0, none⟩)) g).toArray 179 (0, 0))], [(b3, .cells (Trees.enc (.pointer (some ⟨b4, 0, none⟩)) t).toArray 169 (0, 0))], [(b4, .cells (Store.enc (.pointer (some ⟨b5, 0, none⟩)) s).toArray 126 (0, 0))], [(b5, .cells (Dev.enc (v1) (v2) (v3) (v4) d).toArray 85 (0, 0))], g1, g2, g3, g4, [(b6, .cells (RepoM.enc (v5) (v6) (v7) (v8) m).toArray 59 (0, 0))], g5, g6, g7, g8] ++ [C]) := by
  refine fn_entry (args := [.pointer (some ⟨b1, 0, none⟩), .pointer (some ⟨b6, 0, none⟩), .int .i64 seq, .bool once]) Tryz.func38 rfl Tryz.ntmps38 rfl (fun w0 => ?_)
  refine c_seq ?_
  refine c_region ?_
  refine o_L (y_assign rfl) rfl rfl ?_
  refine o_nil0 rfl ?_
  refine c_seq ?_
  refine c_region ?_
  refine o_T (y_move rfl) rfl ?_
  refine o_T (y_move rfl) rfl ?_
  obtain ⟨x1, c1, hx1, hm⟩ := bd2 hm
  refine o_callC en_99 rfl (s_take (s_take (s_take (s_take (s_take (s_take (s_take (s_take (s_take s_nil))))))))) (t99 ho1 ho2 ho3 ho4 hx1) rfl (fun u1 S1 hR1 => ?_)
  obtain ⟨v9, g9, v10, g10, rfl, rfl, ho9, ho10⟩ := hR1
  refine o_rest ?_
  refine o_T (y_move rfl) rfl ?_
  refine o_T (y_extract rfl rfl) rfl ?_
  refine o_T (y_extract rfl rfl) rfl ?_
  refine o_alloc ze_93 rfl rfl (fun b7 => ?_)
  have ho11 : Own rFile (.slice none 0 0) [] [] := Own.nil
  refine o_emp ?_
  have ho12 : Own rInt (.slice none 0 0) [] [] := Own.nil
  refine o_emp ?_
  obtain ⟨z1, hn1, hm⟩ := nm_s hm
  have ho13 := ho9.to (l' := z1.files) (by subst hn1; rfl)
  have ho14 := ho10.to (l' := z1.parents) (by subst hn1; rfl)
  refine o_stNA ag_93 rfl rfl (Node.plain ho9.pl ho10.pl _) (Node.len _ _ _) (Upd.refl ((Node.len _ _ _).trans (Node.len _ _ _).symm)) (rs (rs r0)) (show (Node.enc (v9) (v10) z1) = _ from by subst hn1; rfl) ?_
  refine o_L (y_assign rfl) rfl rfl ?_
  refine o_nil0 rfl ?_
  refine c_seq ?_
  refine c_region ?_
  refine o_T (y_move rfl) rfl ?_
  refine o_T (y_move rfl) rfl ?_
  obtain ⟨x2, c2, hx2, hm⟩ := bd2 hm
  refine o_callC en_100 rfl (s_skip (s_skip (s_skip (s_skip (s_skip (s_skip (s_skip (s_skip (s_skip (s_skip (s_skip (s_skip (s_skip (s_skip (s_take (s_take (s_take (s_take (s_take s_nil))))))))))))))))))) (t100 ho5 ho6 ho7 ho8 hx2) rfl (fun u2 S2 hR2 => ?_)
  obtain ⟨v11, g11, v12, g12, rfl, rfl, ho15, ho16⟩ := hR2
  refine o_rest ?_
  refine o_T (y_move rfl) rfl ?_
  refine o_T (y_extract rfl rfl) rfl ?_
  refine o_T (y_extract rfl rfl) rfl ?_
  refine o_alloc ze_93 rfl rfl (fun b8 => ?_)
  have ho17 : Own rFile (.slice none 0 0) [] [] := Own.nil
  refine o_emp ?_
  have ho18 : Own rInt (.slice none 0 0) [] [] := Own.nil
  refine o_emp ?_
  obtain ⟨z2, hn2, hm⟩ := nm_s hm
  have ho19 := ho15.to (l' := z2.files) (by subst hn2; rfl)
  have ho20 := ho16.to (l' := z2.parents) (by subst hn2; rfl)
  refine o_stNA ag_93 rfl rfl (Node.plain ho15.pl ho16.pl _) (Node.len _ _ _) (Upd.refl ((Node.len _ _ _).trans (Node.len _ _ _).symm)) (rs (rs r0)) (show (Node.enc (v11) (v12) z2) = _ from by subst hn2; rfl) ?_
  refine o_L (y_assign rfl) rfl rfl ?_
  refine o_nil0 rfl ?_
  refine c_seq ?_
  refine c_region ?_
  refine o_lda ag_93 rfl (ms (ms (ms (ms (ms (ms (ms (ms (ms (ms (ms (ms m0)))))))))))) (At.exs At.refl (Node.len _ _ _)) (At.fits At.refl (Node.len _ _ _)) rfl ?_
  refine o_lda ag_93 rfl (ms (ms m0)) (At.exs At.refl (Node.len _ _ _)) (At.fits At.refl (Node.len _ _ _)) rfl ?_
  obtain ⟨c3, hx3, hm⟩ := bd1 hm
  refine o_callC en_101 rfl s_nil (t101 (ho13.rd.mono (fun _ hz => (ms (ms (ms (ms (ms (ms (ms (ms (ms (ms (ms (ms (ms (ms (ms (ms (ms (ms (ms (ms (ms (ms (mg hz))))))))))))))))))))))))) (ho14.rd.mono (fun _ hz => (ms (ms (ms (ms (ms (ms (ms (ms (ms (ms (ms (ms (ms (ms (ms (ms (ms (ms (ms (ms (ms (ms (ms (mg hz)))))))))))))))))))))))))) (ho19.rd.mono (fun _ hz => (ms (ms (ms (ms (ms (ms (ms (ms (mg hz))))))))))) (ho20.rd.mono (fun _ hz => (ms (ms (ms (ms (ms (ms (ms (ms (ms (mg hz)))))))))))) hx3) rfl (fun u3 S3 hR3 => ?_)
  obtain ⟨rfl, rfl⟩ := hR3
  refine o_rest ?_
  refine o_L (y_assign rfl) rfl rfl ?_
  refine o_nil0 rfl ?_
  refine c_seq ?_
  refine c_seq ?_
  refine c_region ?_
  refine o_T (y_move rfl) rfl ?_
  refine o_nil1 35 rfl rfl ?_
  refine c_cond rfl (fun h1 => ?_) (fun h1 => ?_)
  · have hm := cd_t h1 hm
    refine c_seq ?_
    refine c_region ?_
    refine o_T (y_fa fl_93_1 rfl) rfl ?_
    refine o_ld one_57 rfl (ms (ms (ms (ms (ms (ms (ms (ms (ms (ms (ms (ms m0)))))))))))) (At.got (At.refl.comp Node.a_files)) rfl ?_
    obtain ⟨_, hx4, hm⟩ := bd hm
    refine o_callC en_97 rfl (s_skip (s_skip (s_skip (s_skip (s_skip (s_skip (s_skip (s_skip (s_skip (s_skip (s_skip (s_skip (s_skip (s_skip (s_skip (s_skip (s_skip (s_skip (s_skip (s_skip (s_skip (s_skip (s_take s_nil))))))))))))))))))))))) (t97 ho13 hx4) rfl (fun u4 S4 hR4 => ?_)
    obtain ⟨rfl, rfl⟩ := hR4
    refine o_rest ?_
    refine o_nil0 rfl ?_
    refine c_seq ?_
    refine c_region ?_
    refine o_T (y_fa fl_93_2 rfl) rfl ?_
    refine o_ld one_65 rfl (ms (ms (ms (ms (ms (ms (ms (ms (ms (ms (ms (ms m0)))))))))))) (At.got (At.refl.comp Node.a_parents)) rfl ?_
    obtain ⟨_, hx5, hm⟩ := bd hm
    refine o_callC en_82 rfl (s_skip (s_skip (s_skip (s_skip (s_skip (s_skip (s_skip (s_skip (s_skip (s_skip (s_skip (s_skip (s_skip (s_skip (s_skip (s_skip (s_skip (s_skip (s_skip (s_skip (s_skip (s_skip (s_take s_nil))))))))))))))))))))))) (t82 ho14 hx5) rfl (fun u5 S5 hR5 => ?_)
    obtain ⟨rfl, rfl⟩ := hR5
    refine o_rest ?_
    refine o_nil0 rfl ?_
    refine c_seq ?_
    refine c_joinP (n := 0) (fun sh G => sh = [(8, .bool (c3 && (decide (c1 = c2))))] ∧ G = []) Sel.all' .z (fun _ _ h => h) ?_ ?_
    · skip
      refine c_region ?_
      refine o_T (y_move rfl) rfl ?_
      refine o_T (y_move rfl) rfl ?_
      refine o_split 43 rfl (fun h2 => ?_) (fun h2 => ?_)
      · skip
        refine o_take rfl rfl rfl ?_
        refine o_T (y_move rfl) rfl ?_
        refine o_take rfl rfl rfl ?_
        refine o_T (y_move rfl) rfl ?_
        refine o_take rfl rfl rfl ?_
        refine o_T (y_eql rfl rfl) rfl ?_
        refine o_T (y_pickT rfl rfl) rfl ?_
        refine o_L (y_assign rfl) rfl rfl ?_
        refine o_nil0 rfl ?_
        refine ⟨_, _, ⟨rfl, rfl⟩, ⟨by first | rfl | exact gtb rfl (by simp only [h2, Bool.true_and, Bool.false_and, Bool.true_or, Bool.false_or, Bool.and_true, Bool.and_false, Bool.or_true, Bool.or_false, Bool.not_true, Bool.not_false]), trivial⟩, ⟨rfl, rfl⟩, _, (s_take (s_take (s_take (s_take (s_take (s_take (s_take (s_take (s_take (s_take (s_take (s_take (s_take (s_take (s_take (s_take (s_take (s_take (s_take (s_take (s_take (s_take (s_take s_nil)))))))))))))))))))))))⟩
      · skip
        refine o_pass rfl rfl rfl rfl rfl ?_
        refine o_pass rfl rfl rfl rfl rfl ?_
        refine o_pass rfl rfl rfl rfl rfl ?_
        refine o_T (y_pickF rfl rfl) rfl ?_
        refine o_L (y_assign rfl) rfl rfl ?_
        refine o_nil0 rfl ?_
        refine ⟨_, _, ⟨rfl, rfl⟩, ⟨by first | rfl | exact gtb rfl (by simp only [h2, Bool.true_and, Bool.false_and, Bool.true_or, Bool.false_or, Bool.and_true, Bool.and_false, Bool.or_true, Bool.or_false, Bool.not_true, Bool.not_false]), trivial⟩, ⟨rfl, rfl⟩, _, (s_take (s_take (s_take (s_take (s_take (s_take (s_take (s_take (s_take (s_take (s_take (s_take (s_take (s_take (s_take (s_take (s_take (s_take (s_take (s_take (s_take (s_take (s_take s_nil)))))))))))))))))))))))⟩
    · rintro sh G ⟨rfl, rfl⟩
      refine c_ret ?_
      obtain rfl := p1 hm
      refine fun aX wX heX hsX => ret1 Tryz.results38 heX rfl (s_skip (s_skip (s_skip (s_get (ks (ks (ks (ks (ks (ks (ks (ks (ks (ks k0)))))))))) (s_get (ks (ks (ks (ks (ks (ks (ks (ks (ks (ks k0)))))))))) (s_get (ks (ks (ks (ks (ks (ks (ks (ks (ks (ks k0)))))))))) (s_get (ks (ks (ks (ks (ks (ks (ks (ks (ks (ks k0)))))))))) (s_get (ks (ks (ks (ks (ks (ks (ks (ks (ks (ks k0)))))))))) (s_get (ks (ks (ks (ks (ks (ks (ks (ks (ks (ks k0)))))))))) (s_get (ks (ks (ks (ks (ks (ks (ks (ks (ks (ks k0)))))))))) (s_get (ks (ks (ks (ks (ks (ks (ks (ks (ks (ks k0)))))))))) (s_get (ks (ks (ks (ks (ks (ks (ks (ks (ks (ks k0)))))))))) (s_take (s_take (s_take (s_take (s_take (s_skip (s_skip (s_skip (s_skip (s_skip (s_take s_nil))))))))))))))))))))))) ?_
      exact ⟨rfl, rfl⟩
  · have hm := cd_f h1 hm
    refine c_skip ?_
    refine c_seq ?_
    refine c_region ?_
    refine o_T (y_move rfl) rfl ?_
    refine o_T (y_move rfl) rfl ?_
    obtain ⟨x3, c4, hx6, hm⟩ := bd2 hm
    refine o_callC en_99 rfl (s_skip (s_skip (s_skip (s_skip (s_skip (s_skip (s_skip (s_skip (s_skip (s_skip (s_skip (s_skip (s_skip (s_take (s_take (s_take (s_take (s_take (s_take (s_take (s_take (s_take s_nil)))))))))))))))))))))) (t99 ho1 ho2 ho3 ho4 hx6) rfl (fun u6 S6 hR6 => ?_)
    obtain ⟨v13, g13, v14, g14, rfl, rfl, ho21, ho22⟩ := hR6
    refine o_rest ?_
    refine o_T (y_move rfl) rfl ?_
    refine o_T (y_extract rfl rfl) rfl ?_
    refine o_T (y_extract rfl rfl) rfl ?_
    refine o_alloc ze_93 rfl rfl (fun b9 => ?_)
    have ho23 : Own rFile (.slice none 0 0) [] [] := Own.nil
    refine o_emp ?_
    have ho24 : Own rInt (.slice none 0 0) [] [] := Own.nil
    refine o_emp ?_
    obtain ⟨z3, hn3, hm⟩ := nm_s hm
    have ho25 := ho21.to (l' := z3.files) (by subst hn3; rfl)
    have ho26 := ho22.to (l' := z3.parents) (by subst hn3; rfl)
    refine o_stNA ag_93 rfl rfl (Node.plain ho21.pl ho22.pl _) (Node.len _ _ _) (Upd.refl ((Node.len _ _ _).trans (Node.len _ _ _).symm)) (rs (rs r0)) (show (Node.enc (v13) (v14) z3) = _ from by subst hn3; rfl) ?_
    refine o_L (y_assign rfl) rfl rfl ?_
    refine o_nil0 rfl ?_
    refine c_seq ?_
    refine c_region ?_
    refine o_T (y_move rfl) rfl ?_
    refine o_T (y_move rfl) rfl ?_
    obtain ⟨x4, c5, hx7, hm⟩ := bd2 hm
    refine o_callC en_99 rfl (s_skip (s_skip (s_skip (s_take (s_take (s_take (s_take (s_take (s_take (s_take (s_take (s_take s_nil)))))))))))) (t99 ho1 ho2 ho3 ho4 hx7) rfl (fun u7 S7 hR7 => ?_)
    obtain ⟨v15, g15, v16, g16, rfl, rfl, ho27, ho28⟩ := hR7
    refine o_rest ?_
    refine o_T (y_move rfl) rfl ?_
    refine o_T (y_extract rfl rfl) rfl ?_
    refine o_T (y_extract rfl rfl) rfl ?_
    refine o_alloc ze_93 rfl rfl (fun b10 => ?_)
    have ho29 : Own rFile (.slice none 0 0) [] [] := Own.nil
    refine o_emp ?_
    have ho30 : Own rInt (.slice none 0 0) [] [] := Own.nil
    refine o_emp ?_
    obtain ⟨z4, hn4, hm⟩ := nm_s hm
    have ho31 := ho27.to (l' := z4.files) (by subst hn4; rfl)
    have ho32 := ho28.to (l' := z4.parents) (by subst hn4; rfl)
    refine o_stNA ag_93 rfl rfl (Node.plain ho27.pl ho28.pl _) (Node.len _ _ _) (Upd.refl ((Node.len _ _ _).trans (Node.len _ _ _).symm)) (rs (rs r0)) (show (Node.enc (v15) (v16) z4) = _ from by subst hn4; rfl) ?_
    refine o_L (y_assign rfl) rfl rfl ?_
    refine o_nil0 rfl ?_
    refine c_seq ?_
    refine c_region ?_
    refine o_T (y_fa fl_93_1 rfl) rfl ?_
    refine o_ld one_57 rfl (ms (ms (ms (ms (ms (ms (ms (ms (ms (ms (ms (ms (ms (ms (ms (ms (ms (ms (ms (ms (ms (ms (ms (ms (ms (ms (ms (ms (ms (ms (ms m0))))))))))))))))))))))))))))))) (At.got (At.refl.comp Node.a_files)) rfl ?_
    obtain ⟨_, hx8, hm⟩ := bd hm
    refine o_callC en_97 rfl (s_skip (s_skip (s_skip (s_skip (s_skip (s_skip (s_skip (s_skip (s_skip (s_skip (s_skip (s_skip (s_skip (s_skip (s_skip (s_skip (s_skip (s_skip (s_skip (s_skip (s_skip (s_skip (s_skip (s_skip (s_skip (s_skip (s_skip (s_skip (s_skip (s_skip (s_skip (s_skip (s_take s_nil))))))))))))))))))))))))))))))))) (t97 ho13 hx8) rfl (fun u8 S8 hR8 => ?_)
    obtain ⟨rfl, rfl⟩ := hR8
    refine o_rest ?_
    refine o_nil0 rfl ?_
    refine c_seq ?_
    refine c_region ?_
    refine o_T (y_fa fl_93_2 rfl) rfl ?_
    refine o_ld one_65 rfl (ms (ms (ms (ms (ms (ms (ms (ms (ms (ms (ms (ms (ms (ms (ms (ms (ms (ms (ms (ms (ms (ms (ms (ms (ms (ms (ms (ms (ms (ms (ms m0))))))))))))))))))))))))))))))) (At.got (At.refl.comp Node.a_parents)) rfl ?_
    obtain ⟨_, hx9, hm⟩ := bd hm
    refine o_callC en_82 rfl (s_skip (s_skip (s_skip (s_skip (s_skip (s_skip (s_skip (s_skip (s_skip (s_skip (s_skip (s_skip (s_skip (s_skip (s_skip (s_skip (s_skip (s_skip (s_skip (s_skip (s_skip (s_skip (s_skip (s_skip (s_skip (s_skip (s_skip (s_skip (s_skip (s_skip (s_skip (s_skip (s_take s_nil))))))))))))))))))))))))))))))))) (t82 ho14 hx9) rfl (fun u9 S9 hR9 => ?_)
    obtain ⟨rfl, rfl⟩ := hR9
    refine o_rest ?_
    refine o_nil0 rfl ?_
    refine c_seq ?_
    refine c_region ?_
    refine o_lda ag_93 rfl (ms (ms (ms (ms (ms (ms (ms (ms (ms (ms (ms (ms (ms (ms (ms (ms m0)))))))))))))))) (At.exs At.refl (Node.len _ _ _)) (At.fits At.refl (Node.len _ _ _)) rfl ?_
    refine o_lda ag_93 rfl (ms (ms (ms (ms (ms (ms (ms (ms (ms (ms (ms (ms (ms (ms (ms (ms (ms (ms (ms (ms (ms m0))))))))))))))))))))) (At.exs At.refl (Node.len _ _ _)) (At.fits At.refl (Node.len _ _ _)) rfl ?_
    obtain ⟨c6, hx10, hm⟩ := bd1 hm
    refine o_callC en_101 rfl s_nil (t101 (ho25.rd.mono (fun _ hz => (ms (ms (ms (ms (ms (ms (ms (ms (ms (ms (ms (ms (ms (ms (ms (ms (ms (mg hz)))))))))))))))))))) (ho26.rd.mono (fun _ hz => (ms (ms (ms (ms (ms (ms (ms (ms (ms (ms (ms (ms (ms (ms (ms (ms (ms (ms (mg hz))))))))))))))))))))) (ho19.rd.mono (fun _ hz => (ms (ms (ms (ms (ms (ms (ms (ms (ms (ms (ms (ms (ms (ms (ms (ms (ms (ms (ms (ms (ms (ms (ms (ms (ms (ms (ms (mg hz)))))))))))))))))))))))))))))) (ho20.rd.mono (fun _ hz => (ms (ms (ms (ms (ms (ms (ms (ms (ms (ms (ms (ms (ms (ms (ms (ms (ms (ms (ms (ms (ms (ms (ms (ms (ms (ms (ms (ms (mg hz))))))))))))))))))))))))))))))) hx10) rfl (fun u10 S10 hR10 => ?_)
    obtain ⟨rfl, rfl⟩ := hR10
    refine o_rest ?_
    refine o_L (y_assign rfl) rfl rfl ?_
    refine o_nil0 rfl ?_
    refine c_seq ?_
    refine c_region ?_
    refine o_T (y_fa fl_93_1 rfl) rfl ?_
    refine o_ld one_57 rfl (ms (ms (ms (ms (ms (ms (ms (ms (ms (ms (ms (ms (ms (ms (ms (ms m0)))))))))))))))) (At.got (At.refl.comp Node.a_files)) rfl ?_
    obtain ⟨_, hx11, hm⟩ := bd hm
    refine o_callC en_97 rfl (s_skip (s_skip (s_skip (s_skip (s_skip (s_skip (s_skip (s_skip (s_skip (s_skip (s_skip (s_skip (s_skip (s_skip (s_skip (s_skip (s_skip (s_take s_nil)))))))))))))))))) (t97 ho25 hx11) rfl (fun u11 S11 hR11 => ?_)
    obtain ⟨rfl, rfl⟩ := hR11
    refine o_rest ?_
    refine o_nil0 rfl ?_
    refine c_seq ?_
    refine c_region ?_
    refine o_T (y_fa fl_93_2 rfl) rfl ?_
    refine o_ld one_65 rfl (ms (ms (ms (ms (ms (ms (ms (ms (ms (ms (ms (ms (ms (ms (ms (ms m0)))))))))))))))) (At.got (At.refl.comp Node.a_parents)) rfl ?_
    obtain ⟨_, hx12, hm⟩ := bd hm
    refine o_callC en_82 rfl (s_skip (s_skip (s_skip (s_skip (s_skip (s_skip (s_skip (s_skip (s_skip (s_skip (s_skip (s_skip (s_skip (s_skip (s_skip (s_skip (s_skip (s_take s_nil)))))))))))))))))) (t82 ho26 hx12) rfl (fun u12 S12 hR12 => ?_)
    obtain ⟨rfl, rfl⟩ := hR12
    refine o_rest ?_
    refine o_nil0 rfl ?_
    refine c_seq ?_
    refine c_region ?_
    refine o_lda ag_93 rfl (ms (ms m0)) (At.exs At.refl (Node.len _ _ _)) (At.fits At.refl (Node.len _ _ _)) rfl ?_
    refine o_lda ag_93 rfl (ms (ms (ms (ms (ms (ms (ms (ms (ms (ms (ms (ms (ms (ms (ms (ms (ms (ms (ms m0))))))))))))))))))) (At.exs At.refl (Node.len _ _ _)) (At.fits At.refl (Node.len _ _ _)) rfl ?_
    obtain ⟨c7, hx13, hm⟩ := bd1 hm
    refine o_callC en_101 rfl s_nil (t101 (ho31.rd.mono (fun _ hz => (ms (ms (ms (ms (ms (ms (ms (ms (ms (ms (ms (ms (mg hz))))))))))))))) (ho32.rd.mono (fun _ hz => (ms (ms (ms (ms (ms (ms (ms (ms (ms (ms (ms (ms (ms (mg hz)))))))))))))))) (ho19.rd.mono (fun _ hz => (ms (ms (ms (ms (ms (ms (ms (ms (ms (ms (ms (ms (ms (ms (ms (ms (ms (ms (ms (ms (ms (ms (ms (ms (ms (mg hz)))))))))))))))))))))))))))) (ho20.rd.mono (fun _ hz => (ms (ms (ms (ms (ms (ms (ms (ms (ms (ms (ms (ms (ms (ms (ms (ms (ms (ms (ms (ms (ms (ms (ms (ms (ms (ms (mg hz))))))))))))))))))))))))))))) hx13) rfl (fun u13 S13 hR13 => ?_)
    obtain ⟨rfl, rfl⟩ := hR13
    refine o_rest ?_
    refine o_L (y_assign rfl) rfl rfl ?_
    refine o_nil0 rfl ?_
    refine c_seq ?_
    refine c_region ?_
    refine o_T (y_fa fl_93_1 rfl) rfl ?_
    refine o_ld one_57 rfl (ms (ms m0)) (At.got (At.refl.comp Node.a_files)) rfl ?_
    obtain ⟨_, hx14, hm⟩ := bd hm
    refine o_callC en_97 rfl (s_skip (s_skip (s_skip (s_skip (s_skip (s_skip (s_skip (s_skip (s_skip (s_skip (s_skip (s_skip (s_take s_nil))))))))))))) (t97 ho31 hx14) rfl (fun u14 S14 hR14 => ?_)
    obtain ⟨rfl, rfl⟩ := hR14
    refine o_rest ?_
    refine o_nil0 rfl ?_
    refine c_seq ?_
    refine c_region ?_
    refine o_T (y_fa fl_93_2 rfl) rfl ?_
    refine o_ld one_65 rfl (ms (ms m0)) (At.got (At.refl.comp Node.a_parents)) rfl ?_
    obtain ⟨_, hx15, hm⟩ := bd hm
    refine o_callC en_82 rfl (s_skip (s_skip (s_skip (s_skip (s_skip (s_skip (s_skip (s_skip (s_skip (s_skip (s_skip (s_skip (s_take s_nil))))))))))))) (t82 ho32 hx15) rfl (fun u15 S15 hR15 => ?_)
    obtain ⟨rfl, rfl⟩ := hR15
    refine o_rest ?_
    refine o_nil0 rfl ?_
    refine c_seq ?_
    refine c_joinP (n := 0) (fun sh G => sh = [(8, .bool (((((c3 && c6) && c7) && (decide (c1 = c2))) && (decide (c4 = c2))) && (decide (c5 = c2))))] ∧ G = []) Sel.all' .z (fun _ _ h => h) ?_ ?_
    · skip
      refine c_region ?_
      refine o_T (y_move rfl) rfl ?_
      refine o_T (y_move rfl) rfl ?_
      refine o_split 85 rfl (fun h3 => ?_) (fun h3 => ?_)
      · skip
        refine o_take rfl rfl rfl ?_
        refine o_T (y_move rfl) rfl ?_
        refine o_T (y_pickT rfl rfl) rfl ?_
        refine o_T (y_move rfl) rfl ?_
        refine o_split 88 rfl (fun h4 => ?_) (fun h4 => ?_)
        · skip
          refine o_take rfl rfl rfl ?_
          refine o_T (y_move rfl) rfl ?_
          refine o_T (y_pickT rfl rfl) rfl ?_
          refine o_T (y_move rfl) rfl ?_
          refine o_split 91 rfl (fun h5 => ?_) (fun h5 => ?_)
          · skip
            refine o_take rfl rfl rfl ?_
            refine o_T (y_move rfl) rfl ?_
            refine o_take rfl rfl rfl ?_
            refine o_T (y_move rfl) rfl ?_
            refine o_take rfl rfl rfl ?_
            refine o_T (y_eql rfl rfl) rfl ?_
            refine o_T (y_pickT rfl rfl) rfl ?_
            refine o_T (y_move rfl) rfl ?_
            refine o_split 96 rfl (fun h6 => ?_) (fun h6 => ?_)
            · skip
              refine o_take rfl rfl rfl ?_
              refine o_T (y_move rfl) rfl ?_
              refine o_take rfl rfl rfl ?_
              refine o_T (y_move rfl) rfl ?_
              refine o_take rfl rfl rfl ?_
              refine o_T (y_eql rfl rfl) rfl ?_
              refine o_T (y_pickT rfl rfl) rfl ?_
              refine o_T (y_move rfl) rfl ?_
              refine o_split 101 rfl (fun h7 => ?_) (fun h7 => ?_)
              · skip
                refine o_take rfl rfl rfl ?_
                refine o_T (y_move rfl) rfl ?_
                refine o_take rfl rfl rfl ?_
                refine o_T (y_move rfl) rfl ?_
                refine o_take rfl rfl rfl ?_
                refine o_T (y_eql rfl rfl) rfl ?_
                refine o_T (y_pickT rfl rfl) rfl ?_
                refine o_L (y_assign rfl) rfl rfl ?_
                refine o_nil0 rfl ?_
                refine ⟨_, _, ⟨rfl, rfl⟩, ⟨by first | rfl | exact gtb rfl (by simp only [h3, h4, h5, h6, h7, Bool.true_and, Bool.false_and, Bool.true_or, Bool.false_or, Bool.and_true, Bool.and_false, Bool.or_true, Bool.or_false, Bool.not_true, Bool.not_false]), trivial⟩, ⟨rfl, rfl⟩, _, (s_take (s_take (s_take (s_take (s_take (s_take (s_take (s_take (s_take (s_take (s_take (s_take (s_take (s_take (s_take (s_take (s_take (s_take (s_take (s_take (s_take (s_take (s_take (s_take (s_take (s_take (s_take (s_take (s_take s_nil)))))))))))))))))))))))))))))⟩
              · skip
                refine o_pass rfl rfl rfl rfl rfl ?_
                refine o_pass rfl rfl rfl rfl rfl ?_
                refine o_pass rfl rfl rfl rfl rfl ?_
                refine o_T (y_pickF rfl rfl) rfl ?_
                refine o_L (y_assign rfl) rfl rfl ?_
                refine o_nil0 rfl ?_
                refine ⟨_, _, ⟨rfl, rfl⟩, ⟨by first | rfl | exact gtb rfl (by simp only [h3, h4, h5, h6, h7, Bool.true_and, Bool.false_and, Bool.true_or, Bool.false_or, Bool.and_true, Bool.and_false, Bool.or_true, Bool.or_false, Bool.not_true, Bool.not_false]), trivial⟩, ⟨rfl, rfl⟩, _, (s_take (s_take (s_take (s_take (s_take (s_take (s_take (s_take (s_take (s_take (s_take (s_take (s_take (s_take (s_take (s_take (s_take (s_take (s_take (s_take (s_take (s_take (s_take (s_take (s_take (s_take (s_take (s_take (s_take s_nil)))))))))))))))))))))))))))))⟩
            · skip
              refine o_pass rfl rfl rfl rfl rfl ?_
              refine o_pass rfl rfl rfl rfl rfl ?_
              refine o_pass rfl rfl rfl rfl rfl ?_
              refine o_T (y_pickF rfl rfl) rfl ?_
              refine o_T (y_move rfl) rfl ?_
              refine o_pass rfl rfl rfl rfl rfl ?_
              refine o_pass rfl rfl rfl rfl rfl ?_
              refine o_pass rfl rfl rfl rfl rfl ?_
              refine o_T (y_pickF rfl rfl) rfl ?_
              refine o_L (y_assign rfl) rfl rfl ?_
              refine o_nil0 rfl ?_
              refine ⟨_, _, ⟨rfl, rfl⟩, ⟨by first | rfl | exact gtb rfl (by simp only [h3, h4, h5, h6, Bool.true_and, Bool.false_and, Bool.true_or, Bool.false_or, Bool.and_true, Bool.and_false, Bool.or_true, Bool.or_false, Bool.not_true, Bool.not_false]), trivial⟩, ⟨rfl, rfl⟩, _, (s_take (s_take (s_take (s_take (s_take (s_take (s_take (s_take (s_take (s_take (s_take (s_take (s_take (s_take (s_take (s_take (s_take (s_take (s_take (s_take (s_take (s_take (s_take (s_take (s_take (s_take (s_take (s_take (s_take s_nil)))))))))))))))))))))))))))))⟩
          · skip
            refine o_pass rfl rfl rfl rfl rfl ?_
            refine o_pass rfl rfl rfl rfl rfl ?_
            refine o_pass rfl rfl rfl rfl rfl ?_
            refine o_T (y_pickF rfl rfl) rfl ?_
            refine o_T (y_move rfl) rfl ?_
            refine o_pass rfl rfl rfl rfl rfl ?_
            refine o_pass rfl rfl rfl rfl rfl ?_
            refine o_pass rfl rfl rfl rfl rfl ?_
            refine o_T (y_pickF rfl rfl) rfl ?_
            refine o_T (y_move rfl) rfl ?_
            refine o_pass rfl rfl rfl rfl rfl ?_
            refine o_pass rfl rfl rfl rfl rfl ?_
            refine o_pass rfl rfl rfl rfl rfl ?_
            refine o_T (y_pickF rfl rfl) rfl ?_
            refine o_L (y_assign rfl) rfl rfl ?_
            refine o_nil0 rfl ?_
            refine ⟨_, _, ⟨rfl, rfl⟩, ⟨by first | rfl | exact gtb rfl (by simp only [h3, h4, h5, Bool.true_and, Bool.false_and, Bool.true_or, Bool.false_or, Bool.and_true, Bool.and_false, Bool.or_true, Bool.or_false, Bool.not_true, Bool.not_false]), trivial⟩, ⟨rfl, rfl⟩, _, (s_take (s_take (s_take (s_take (s_take (s_take (s_take (s_take (s_take (s_take (s_take (s_take (s_take (s_take (s_take (s_take (s_take (s_take (s_take (s_take (s_take (s_take (s_take (s_take (s_take (s_take (s_take (s_take (s_take s_nil)))))))))))))))))))))))))))))⟩
        · skip
          refine o_pass rfl rfl rfl rfl rfl ?_
          refine o_T (y_pickF rfl rfl) rfl ?_
          refine o_T (y_move rfl) rfl ?_
          refine o_pass rfl rfl rfl rfl rfl ?_
          refine o_pass rfl rfl rfl rfl rfl ?_
          refine o_pass rfl rfl rfl rfl rfl ?_
          refine o_T (y_pickF rfl rfl) rfl ?_
          refine o_T (y_move rfl) rfl ?_
          refine o_pass rfl rfl rfl rfl rfl ?_
          refine o_pass rfl rfl rfl rfl rfl ?_
          refine o_pass rfl rfl rfl rfl rfl ?_
          refine o_T (y_pickF rfl rfl) rfl ?_
          refine o_T (y_move rfl) rfl ?_
          refine o_pass rfl rfl rfl rfl rfl ?_
          refine o_pass rfl rfl rfl rfl rfl ?_
          refine o_pass rfl rfl rfl rfl rfl ?_
          refine o_T (y_pickF rfl rfl) rfl ?_
          refine o_L (y_assign rfl) rfl rfl ?_
          refine o_nil0 rfl ?_
          refine ⟨_, _, ⟨rfl, rfl⟩, ⟨by first | rfl | exact gtb rfl (by simp only [h3, h4, Bool.true_and, Bool.false_and, Bool.true_or, Bool.false_or, Bool.and_true, Bool.and_false, Bool.or_true, Bool.or_false, Bool.not_true, Bool.not_false]), trivial⟩, ⟨rfl, rfl⟩, _, (s_take (s_take (s_take (s_take (s_take (s_take (s_take (s_take (s_take (s_take (s_take (s_take (s_take (s_take (s_take (s_take (s_take (s_take (s_take (s_take (s_take (s_take (s_take (s_take (s_take (s_take (s_take (s_take (s_take s_nil)))))))))))))))))))))))))))))⟩
      · skip
        refine o_pass rfl rfl rfl rfl rfl ?_
        refine o_T (y_pickF rfl rfl) rfl ?_
        refine o_T (y_move rfl) rfl ?_
        refine o_pass rfl rfl rfl rfl rfl ?_
        refine o_T (y_pickF rfl rfl) rfl ?_
        refine o_T (y_move rfl) rfl ?_
        refine o_pass rfl rfl rfl rfl rfl ?_
        refine o_pass rfl rfl rfl rfl rfl ?_
        refine o_pass rfl rfl rfl rfl rfl ?_
        refine o_T (y_pickF rfl rfl) rfl ?_
        refine o_T (y_move rfl) rfl ?_
        refine o_pass rfl rfl rfl rfl rfl ?_
        refine o_pass rfl rfl rfl rfl rfl ?_
        refine o_pass rfl rfl rfl rfl rfl ?_
        refine o_T (y_pickF rfl rfl) rfl ?_
        refine o_T (y_move rfl) rfl ?_
        refine o_pass rfl rfl rfl rfl rfl ?_
        refine o_pass rfl rfl rfl rfl rfl ?_
        refine o_pass rfl rfl rfl rfl rfl ?_
        refine o_T (y_pickF rfl rfl) rfl ?_
        refine o_L (y_assign rfl) rfl rfl ?_
        refine o_nil0 rfl ?_
        refine ⟨_, _, ⟨rfl, rfl⟩, ⟨by first | rfl | exact gtb rfl (by simp only [h3, Bool.true_and, Bool.false_and, Bool.true_or, Bool.false_or, Bool.and_true, Bool.and_false, Bool.or_true, Bool.or_false, Bool.not_true, Bool.not_false]), trivial⟩, ⟨rfl, rfl⟩, _, (s_take (s_take (s_take (s_take (s_take (s_take (s_take (s_take (s_take (s_take (s_take (s_take (s_take (s_take (s_take (s_take (s_take (s_take (s_take (s_take (s_take (s_take (s_take (s_take (s_take (s_take (s_take (s_take (s_take s_nil)))))))))))))))))))))))))))))⟩
    · rintro sh G ⟨rfl, rfl⟩
      refine c_ret ?_
      obtain rfl := p1 hm
      refine fun aX wX heX hsX => ret1 Tryz.results38 heX rfl (s_skip (s_skip (s_skip (s_take (s_take (s_take (s_take (s_take (s_take (s_take (s_take (s_take (s_skip (s_skip (s_skip (s_skip (s_skip (s_skip (s_take (s_take (s_take (s_take (s_take (s_skip (s_skip (s_skip (s_skip (s_skip (s_take s_nil))))))))))))))))))))))))))))) ?_
      exact ⟨rfl, rfl⟩
end Go.Proofs.Qxb6500350aGreat
