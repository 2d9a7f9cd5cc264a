/- MADE BY PROGRAM (tools350/mir.py): mirror and walk. -/
import Derived.Test.Qxb6500350aGreatF2
import Derived.Test.Qxb6500350aGreatT129
import Derived.Test.Qxb6500350aGreatT130
set_option linter.unusedVariables false
set_option linter.unusedSimpArgs false
set_option maxRecDepth 20000
set_option maxHeartbeats 4000000
namespace Go.Proofs.Qxb6500350aGreat
open Go.Eng

/- (*repo.Repo).join -/
def m154 (n : Nat) (r : RepoR) (g : Graph) (t : Trees) (s : Store) (d : Dev) (h_ : Head) (res : (List File)) (ours : Int) (theirs : Int) : Option (Int × Graph × Trees × Store × Dev) :=
ob6 (m129 n g t s d res ([ours, theirs] : List Int) [109, 101, 114, 103, 101]) fun c1 c2 z1 z2 z3 z4 =>
cond (decide (¬ (c2 = 0))) (
some (c2, z1, z2, z3, z4)) (
ob2 (m130 n r z1 h_ c1) fun c3 z5 =>
some (c3, z5, z2, z3, z4))
theorem t154 {n : Nat} {C : List Chunk} {rc1 : Int} {rz1 : Graph} {rz2 : Trees} {rz3 : Store} {rz4 : Dev} {b1 : Nat} {r : RepoR} {b2 : Nat} {g : Graph} {b3 : Nat} {t : Trees} {b4 : Nat} {s : Store} {b5 : Nat} {d : Dev} {v1 : Value} {g1 : List Chunk} {v2 : Value} {g2 : List Chunk} {v3 : Value} {g3 : List Chunk} {v4 : Value} {g4 : List Chunk} {q1 : Option Addr} {q2 : Option Addr} {h_ : Head} {v5 : Value} {res : (List File)} {ours : Int} {theirs : Int} (ho1 : Own rByte v1 d.blk g1) (ho2 : Own rByte v2 d.base g2) (ho3 : Own rInt v3 d.at_ g3) (ho4 : Own rByte v4 d.data g4) (hr1 : Rd rFile C v5 res)  (hm : m154 n r g t s d h_ res ours theirs = some (rc1, rz1, rz2, rz3, rz4)) : Trip Tryz.prog 154 #[.pointer (some ⟨b1, 0, none⟩), .agg (Head.enc h_).toArray, v5, .int .i64 ours, .int .i64 theirs] ([[(b1, .cells (RepoR.enc (.pointer (some ⟨b2, 0, none⟩)) ((.pointer q1)) ((.pointer q2)) r).toArray 130 (0, 0))], [(b2, .cells (Graph.enc (.pointer (some ⟨b3, 0, none⟩)) g).toArray 179 (0, 0))], [(b3, .cells (Trees.enc (.pointer (some ⟨b4, 0, none⟩)) t).toArray 169 (0, 0))], [(b4, .cells (Store.enc (.pointer (some ⟨b5, 0, none⟩)) s).toArray 126 (0, 0))], [(b5, .cells (Dev.enc (v1) (v2) (v3) (v4) d).toArray 85 (0, 0))], g1, g2, g3, g4] ++ [C]) (fun u S' => ∃ (ev1 : Value), ∃ (eg1 : List Chunk), ∃ (ev2 : Value), ∃ (eg2 : List Chunk), ∃ (ev3 : Value), ∃ (eg3 : List Chunk), ∃ (ev4 : Value), ∃ (eg4 : List Chunk), .int .i64 rc1 = u ∧ S' = [[(b1, .cells (RepoR.enc (.pointer (some ⟨b2, 0, none⟩)) ((.pointer q1)) ((.pointer q2)) r).toArray 130 (0, 0))], [(b2, .cells (Graph.enc (.pointer (some ⟨b3, 0, none⟩)) rz1).toArray 179 (0, 0))], [(b3, .cells (Trees.enc (.pointer (some ⟨b4, 0, none⟩)) rz2).toArray 169 (0, 0))], [(b4, .cells (Store.enc (.pointer (some ⟨b5, 0, none⟩)) rz3).toArray 126 (0, 0))], [(b5, .cells (Dev.enc (ev1) (ev2) (ev3) (ev4) rz4).toArray 85 (0, 0))], eg1, eg2, eg3, eg4] ++ [C] ∧ Own rByte ev1 rz4.blk eg1 ∧ Own rByte ev2 rz4.base eg2 ∧ Own rInt ev3 rz4.at_ eg3 ∧ Own rByte ev4 rz4.data eg4) := by
  refine fn_entry (args := [.pointer (some ⟨b1, 0, none⟩), .agg (Head.enc h_).toArray, v5, .int .i64 ours, .int .i64 theirs]) Tryz.func154 rfl Tryz.ntmps154 rfl (fun w0 => ?_)
  refine c_seq ?_
  refine c_region ?_
  refine o_box rfl rfl rfl rfl (fun b6 => ?_)
  refine o_L (y_assign rfl) rfl rfl ?_
  refine o_nil0 rfl ?_
  refine c_seq ?_
  refine c_region ?_
  refine o_T (y_move rfl) rfl ?_
  refine o_T (y_move rfl) rfl ?_
  refine o_lit2 (R := rInt) sz_65 rfl rfl rfl (show rInt.rd [] [.int .i64 ours] ours from rfl) (show rInt.rd [] [.int .i64 theirs] theirs from rfl) rfl (fun b7 => ?_)
  have ho5 := Own.two (R := rInt) (b := b7) (x := ours) (y := theirs) (u := .int .i64 ours) (v := .int .i64 theirs) rfl rfl
  refine o_L (y_assign rfl) rfl rfl ?_
  refine o_nil0 rfl ?_
  refine c_seq ?_
  refine c_region ?_
  refine o_T (y_move rfl) rfl ?_
  refine o_T (y_nilck rfl) rfl ?_
  refine o_T (y_fa fl_130_0 rfl) rfl ?_
  refine o_ld one_30 rfl (ms (ms m0)) (At.got (At.refl.comp RepoR.a_g)) rfl ?_
  refine o_T (y_move rfl) rfl ?_
  refine o_T (y_move rfl) rfl ?_
  obtain ⟨c1, c2, z1, z2, z3, z4, hx1, hm⟩ := bd6 hm
  refine o_callC en_129 rfl (s_skip (s_skip (s_skip (s_take (s_take (s_take (s_take (s_take (s_take (s_take (s_take s_nil))))))))))) (t129 ho1 ho2 ho3 ho4 (hr1.mono (fun _ hz => (ms (ms (ms (mg hz)))))) (ho5.rd.mono (fun _ hz => (mg hz))) hx1) rfl (fun u1 S1 hR1 => ?_)
  obtain ⟨v6, g5, v7, g6, v8, g7, v9, g8, rfl, rfl, ho6, ho7, ho8, ho9⟩ := hR1
  refine o_rest ?_
  refine o_T (y_move rfl) rfl ?_
  refine o_T (y_extract rfl rfl) rfl ?_
  refine o_T (y_extract rfl rfl) rfl ?_
  refine o_L (y_assign rfl) rfl rfl ?_
  refine o_L (y_assign rfl) rfl rfl ?_
  refine o_nil0 rfl ?_
  refine c_seq ?_
  refine c_seq ?_
  refine c_region ?_
  refine o_T (y_move rfl) rfl ?_
  refine o_T (y_neq rfl rfl) rfl ?_
  refine o_nil1 28 rfl rfl ?_
  refine c_cond rfl (fun h1 => ?_) (fun h1 => ?_)
  · have hm := cd_t h1 hm
    refine c_seq ?_
    refine c_region ?_
    refine o_T (y_move rfl) rfl ?_
    refine o_L (y_assign rfl) rfl rfl ?_
    refine o_nil0 rfl ?_
    refine c_ret ?_
    obtain ⟨rfl, rfl, rfl, rfl, rfl⟩ := pr5 hm
    refine fun aX wX heX hsX => ret1 Tryz.results154 heX rfl (s_get (ks (ks (ks (ks (ks (ks (ks (ks (ks (ks k0)))))))))) (s_take (s_take (s_take (s_take (s_take (s_take (s_take (s_take (s_skip (s_skip (s_take s_nil)))))))))))) ?_
    exact ⟨v6, _, v7, _, v8, _, v9, _, rfl, rfl, ho6, ho7, ho8, ho9⟩
  · have hm := cd_f h1 hm
    refine c_skip ?_
    refine c_seq ?_
    refine c_region ?_
    refine o_T (y_move rfl) rfl ?_
    refine o_lda ag_54 rfl (ms (ms (ms (ms (ms (ms (ms (ms (ms m0))))))))) (At.exs At.refl (Head.len _)) (At.fits At.refl (Head.len _)) rfl ?_
    refine o_T (y_move rfl) rfl ?_
    obtain ⟨c3, z5, hx2, hm⟩ := bd2 hm
    refine o_callC en_130 rfl (s_get (ks (ks (ks (ks (ks (ks (ks (ks (ks (ks k0)))))))))) (s_take s_nil)) (t130 hx2) rfl (fun u2 S2 hR2 => ?_)
    obtain ⟨rfl, rfl⟩ := hR2
    refine o_rest ?_
    refine o_L (y_assign rfl) rfl rfl ?_
    refine o_nil0 rfl ?_
    refine c_ret ?_
    obtain ⟨rfl, rfl, rfl, rfl, rfl⟩ := pr5 hm
    refine fun aX wX heX hsX => ret1 Tryz.results154 heX rfl (s_take (s_take (s_take (s_take (s_take (s_take (s_take (s_take (s_take (s_skip (s_skip (s_take s_nil)))))))))))) ?_
    exact ⟨v6, _, v7, _, v8, _, v9, _, rfl, rfl, ho6, ho7, ho8, ho9⟩
end Go.Proofs.Qxb6500350aGreat
