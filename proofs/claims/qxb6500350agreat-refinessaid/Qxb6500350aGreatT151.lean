/- MADE BY PROGRAM (tools350/mir.py): mirror and walk. -/
import Derived.Test.Qxb6500350aGreatF2
import Derived.Test.Qxb6500350aGreatT224
import Derived.Test.Qxb6500350aGreatT225
import Derived.Test.Qxb6500350aGreatT226
import Derived.Test.Qxb6500350aGreatT227
import Derived.Test.Qxb6500350aGreatT228
set_option linter.unusedVariables false
set_option linter.unusedSimpArgs false
set_option maxRecDepth 20000
set_option maxHeartbeats 4000000
namespace Go.Proofs.Qxb6500350aGreat
open Go.Eng

/- (*repo.Repo).weave -/
def m151_w1 (n : Nat) (sb : (List File)) (so : (List File)) (st : (List File)) (l1 : List Chg) (l2 : List Chg) (mm : Nat) : (List File) → Int → Int → Int → Int → Int → Int → Engine → Option ((List File) × Int × Int × Int × Int × Int × Int × Engine) := it8 (fun lp1 l3 c3 c4 c5 c6 c7 c8 z1 =>
cond (((decide (c4 < (sb.length : Int))) || (decide (c5 < (so.length : Int)))) || (decide (c6 < (st.length : Int)))) (
ob1 (m225 n [] sb c4) fun c15 =>
ob1 (m225 n c15 so c5) fun c16 =>
ob1 (m225 n c16 st c6) fun c17 =>
ob2 (m226 n sb c4 c17) fun c18 c19 =>
ob2 (m226 n so c5 c17) fun c20 c21 =>
ob2 (m226 n st c6 c17) fun c22 c23 =>
ob1 (m227 n l1 c7 c17) fun c24 =>
ob1 (m227 n l2 c8 c17) fun c25 =>
ob3 (cond ((!c25) || ((c21 == c23) && (decide (c20 = c22)))) (
cond c21 (
Option.bind (apd l3 ({ File.zero with path := c17, data := c20 })) fun l6 =>
some (l6, c3, z1)) (
some (l3, c3, z1))) (
cond (!c24) (
cond c23 (
Option.bind (apd l3 ({ File.zero with path := c17, data := c22 })) fun l7 =>
some (l7, c3, z1)) (
some (l3, c3, z1))) (
ob4 (m228 n z1 c18 c20 c22) fun c27 c28 c29 z4 =>
nm (({ File.zero with path := c17, data := c27 }) : File) fun z5 =>
cond (decide ((0 : Int) < c28)) (
nm ({ z5 with mode := 1 } : File) fun z6 =>
Option.bind (apd l3 z6) fun l8 =>
some (l8, (wi (c3 + 1)), z4)) (
Option.bind (apd l3 z5) fun l9 =>
some (l9, c3, z4))))) fun l5 c26 z3 =>
ob1 (cond c19 (
some (wi (c4 + 1))) (
some c4)) fun c30 =>
cond c21 (
cond c23 (
cond c24 (
cond c25 (
lp1 l5 c26 c30 (wi (c5 + 1)) (wi (c6 + 1)) (wi (c7 + 1)) (wi (c8 + 1)) z3) (
lp1 l5 c26 c30 (wi (c5 + 1)) (wi (c6 + 1)) (wi (c7 + 1)) c8 z3)) (
cond c25 (
lp1 l5 c26 c30 (wi (c5 + 1)) (wi (c6 + 1)) c7 (wi (c8 + 1)) z3) (
lp1 l5 c26 c30 (wi (c5 + 1)) (wi (c6 + 1)) c7 c8 z3))) (
cond c24 (
cond c25 (
lp1 l5 c26 c30 (wi (c5 + 1)) c6 (wi (c7 + 1)) (wi (c8 + 1)) z3) (
lp1 l5 c26 c30 (wi (c5 + 1)) c6 (wi (c7 + 1)) c8 z3)) (
cond c25 (
lp1 l5 c26 c30 (wi (c5 + 1)) c6 c7 (wi (c8 + 1)) z3) (
lp1 l5 c26 c30 (wi (c5 + 1)) c6 c7 c8 z3)))) (
cond c23 (
cond c24 (
cond c25 (
lp1 l5 c26 c30 c5 (wi (c6 + 1)) (wi (c7 + 1)) (wi (c8 + 1)) z3) (
lp1 l5 c26 c30 c5 (wi (c6 + 1)) (wi (c7 + 1)) c8 z3)) (
cond c25 (
lp1 l5 c26 c30 c5 (wi (c6 + 1)) c7 (wi (c8 + 1)) z3) (
lp1 l5 c26 c30 c5 (wi (c6 + 1)) c7 c8 z3))) (
cond c24 (
cond c25 (
lp1 l5 c26 c30 c5 c6 (wi (c7 + 1)) (wi (c8 + 1)) z3) (
lp1 l5 c26 c30 c5 c6 (wi (c7 + 1)) c8 z3)) (
cond c25 (
lp1 l5 c26 c30 c5 c6 c7 (wi (c8 + 1)) z3) (
lp1 l5 c26 c30 c5 c6 c7 c8 z3))))) (
some (l3, c3, c4, c5, c6, c7, c8, z1))) mm
def m151 (n : Nat) (r : RepoR) (e : Engine) (sb : (List File)) (so : (List File)) (st : (List File)) : Option ((List File) × Int × Engine) :=
ob2 (m224 n sb so) fun l1 c1 =>
ob2 (m224 n sb st) fun l2 c2 =>
ob8 (m151_w1 n sb so st l1 l2 n ([] : List File) 0 0 0 0 0 0 e) fun l4 c9 c10 c11 c12 c13 c14 z2 =>
some (l4, c9, z2)
theorem t151 {n : Nat} {C : List Chunk} {rl1 : List File} {rc1 : Int} {rz1 : Engine} {b1 : Nat} {r : RepoR} {q1 : Option Addr} {q2 : Option Addr} {b2 : Nat} {e : Engine} {v1 : Value} {g1 : List Chunk} {v2 : Value} {g2 : List Chunk} {v3 : Value} {g3 : List Chunk} {v4 : Value} {sb : (List File)} {v5 : Value} {so : (List File)} {v6 : Value} {st : (List File)} (ho1 : Own rStr v1 e.line_ g1) (ho2 : Own rInt v2 e.sum g2) (ho3 : Own rInt v3 e.nxt g3) (hr1 : Rd rFile C v4 sb) (hr2 : Rd rFile C v5 so) (hr3 : Rd rFile C v6 st)  (hm : m151 n r e sb so st = some (rl1, rc1, rz1)) : Trip Tryz.prog 151 #[.pointer (some ⟨b1, 0, none⟩), v4, v5, v6] ([[(b1, .cells (RepoR.enc ((.pointer q1)) ((.pointer q2)) (.pointer (some ⟨b2, 0, none⟩)) r).toArray 130 (0, 0))], [(b2, .cells (Engine.enc (v1) (v2) (v3) e).toArray 187 (0, 0))], g1, g2, g3] ++ [C]) (fun u S' => ∃ (ev1 : Value), ∃ (eg1 : List Chunk), ∃ (ev2 : Value), ∃ (eg2 : List Chunk), ∃ (ev3 : Value), ∃ (eg3 : List Chunk), ∃ (ev4 : Value), ∃ (eg4 : List Chunk), .tuple #[ev1, .int .i64 rc1] = u ∧ S' = [[(b1, .cells (RepoR.enc ((.pointer q1)) ((.pointer q2)) (.pointer (some ⟨b2, 0, none⟩)) r).toArray 130 (0, 0))], [(b2, .cells (Engine.enc (ev2) (ev3) (ev4) rz1).toArray 187 (0, 0))], eg2, eg3, eg4, eg1] ++ [C] ∧ Own rFile ev1 rl1 eg1 ∧ Own rStr ev2 rz1.line_ eg2 ∧ Own rInt ev3 rz1.sum eg3 ∧ Own rInt ev4 rz1.nxt eg4) := by
  refine fn_entry (args := [.pointer (some ⟨b1, 0, none⟩), v4, v5, v6]) Tryz.func151 rfl Tryz.ntmps151 rfl (fun w0 => ?_)
  refine c_seq ?_
  refine c_region ?_
  have ho4 : Own rFile (.slice none 0 0) [] [] := Own.nil
  refine o_emp ?_
  refine o_L (y_assign rfl) rfl rfl ?_
  refine o_L (y_assign rfl) rfl rfl ?_
  refine o_nil0 rfl ?_
  refine c_seq ?_
  refine c_region ?_
  refine o_T (y_move rfl) rfl ?_
  refine o_T (y_nilck rfl) rfl ?_
  refine o_T (y_fa fl_130_2 rfl) rfl ?_
  refine o_ld one_32 rfl (ms m0) (At.got (At.refl.comp RepoR.a_d)) rfl ?_
  refine o_T (y_move rfl) rfl ?_
  refine o_T (y_move rfl) rfl ?_
  obtain ⟨l1, c1, hx1, hm⟩ := bd2 hm
  refine o_callC en_224 rfl s_nil (t224 (hr1.mono (fun _ hz => (ms (ms (ms (ms (ms (ms (mg hz))))))))) (hr2.mono (fun _ hz => (ms (ms (ms (ms (ms (ms (mg hz))))))))) hx1) rfl (fun u1 S1 hR1 => ?_)
  obtain ⟨v7, g4, rfl, rfl, ho5⟩ := hR1
  refine o_rest ?_
  refine o_T (y_move rfl) rfl ?_
  refine o_T (y_extract rfl rfl) rfl ?_
  refine o_T (y_extract rfl rfl) rfl ?_
  refine o_L (y_assign rfl) rfl rfl ?_
  refine o_L (y_assign rfl) rfl rfl ?_
  refine o_nil0 rfl ?_
  refine c_seq ?_
  refine c_region ?_
  refine o_T (y_move rfl) rfl ?_
  refine o_T (y_nilck rfl) rfl ?_
  refine o_T (y_fa fl_130_2 rfl) rfl ?_
  refine o_ld one_32 rfl (ms (ms m0)) (At.got (At.refl.comp RepoR.a_d)) rfl ?_
  refine o_T (y_move rfl) rfl ?_
  refine o_T (y_move rfl) rfl ?_
  obtain ⟨l2, c2, hx2, hm⟩ := bd2 hm
  refine o_callC en_224 rfl s_nil (t224 (hr1.mono (fun _ hz => (ms (ms (ms (ms (ms (ms (ms (mg hz)))))))))) (hr3.mono (fun _ hz => (ms (ms (ms (ms (ms (ms (ms (mg hz)))))))))) hx2) rfl (fun u2 S2 hR2 => ?_)
  obtain ⟨v8, g5, rfl, rfl, ho6⟩ := hR2
  refine o_rest ?_
  refine o_T (y_move rfl) rfl ?_
  refine o_T (y_extract rfl rfl) rfl ?_
  refine o_T (y_extract rfl rfl) rfl ?_
  refine o_L (y_assign rfl) rfl rfl ?_
  refine o_L (y_assign rfl) rfl rfl ?_
  refine o_nil0 rfl ?_
  refine c_seq ?_
  refine c_region ?_
  have ho7 : Own rFile (.slice none 0 0) [] [] := Own.nil
  refine o_emp ?_
  refine o_L (y_assign rfl) rfl rfl ?_
  refine o_nil0 rfl ?_
  refine c_seq ?_
  refine c_region ?_
  refine o_L (y_assign rfl) rfl rfl ?_
  refine o_L (y_assign rfl) rfl rfl ?_
  refine o_L (y_assign rfl) rfl rfl ?_
  refine o_L (y_assign rfl) rfl rfl ?_
  refine o_L (y_assign rfl) rfl rfl ?_
  refine o_L (y_assign rfl) rfl rfl ?_
  refine o_nil0 rfl ?_
  refine c_seq ?_
  obtain ⟨l4, c9, c10, c11, c12, c13, c14, z2, hj1, hm⟩ := bd8 hm
  refine c_joinP (n := 5) (fun sh G => ∃ (v13 : Value), ∃ (g10 : List Chunk), ∃ (v14 : Value), ∃ (g11 : List Chunk), ∃ (v15 : Value), ∃ (g12 : List Chunk), ∃ (v16 : Value), ∃ (g13 : List Chunk), sh = [(14, v13), (15, .int .i64 c9), (16, .int .i64 c10), (17, .int .i64 c11), (18, .int .i64 c12), (19, .int .i64 c13), (20, .int .i64 c14)] ∧ G = [g10, [(b2, .cells (Engine.enc (v14) (v15) (v16) z2).toArray 187 (0, 0))], g11, g12, g13] ∧ Own rFile v13 l4 g10 ∧ Own rStr v14 z2.line_ g11 ∧ Own rInt v15 z2.sum g12 ∧ Own rInt v16 z2.nxt g13) (s_take (s_get (ks (ks (ks (ks k0)))) (s_get (ks (ks (ks (ks k0)))) (s_get (ks (ks (ks (ks k0)))) (s_get (ks (ks (ks (ks k0)))) (s_take (s_take (s_skip (s_take (s_take s_nil)))))))))) (.s (.s (.s (.s (.s .z))))) (fun _ _ h => h) ?_ ?_
  · skip
    refine c_block ?_
    refine c_loopP (n := 5) (fun mm sh G => ∃ (l3 : List File), ∃ (c3 : Int), ∃ (c4 : Int), ∃ (c5 : Int), ∃ (c6 : Int), ∃ (c7 : Int), ∃ (c8 : Int), ∃ (z1 : Engine), ∃ (v9 : Value), ∃ (g6 : List Chunk), ∃ (v10 : Value), ∃ (g7 : List Chunk), ∃ (v11 : Value), ∃ (g8 : List Chunk), ∃ (v12 : Value), ∃ (g9 : List Chunk), sh = [(14, v9), (15, .int .i64 c3), (16, .int .i64 c4), (17, .int .i64 c5), (18, .int .i64 c6), (19, .int .i64 c7), (20, .int .i64 c8)] ∧ G = [g6, [(b2, .cells (Engine.enc (v10) (v11) (v12) z1).toArray 187 (0, 0))], g7, g8, g9] ∧ m151_w1 n sb so st l1 l2 mm l3 c3 c4 c5 c6 c7 c8 z1 = some (l4, c9, c10, c11, c12, c13, c14, z2) ∧ Own rFile v9 l3 g6 ∧ Own rStr v10 z1.line_ g7 ∧ Own rInt v11 z1.sum g8 ∧ Own rInt v12 z1.nxt g9) n (s_take (s_get (ks (ks (ks (ks k0)))) (s_get (ks (ks (ks (ks k0)))) (s_get (ks (ks (ks (ks k0)))) (s_get (ks (ks (ks (ks k0)))) (s_take (s_take (s_skip (s_take (s_take s_nil)))))))))) (.s (.s (.s (.s (.s .z))))) ⟨_, _, ⟨_, _, _, _, _, _, _, _, (.slice none 0 0), _, v1, _, v2, _, v3, _, rfl, rfl, hj1, ho7, ho1, ho2, ho3⟩, ⟨rfl, rfl, rfl, rfl, rfl, rfl, rfl, trivial⟩, _, (s_take (s_get (ks (ks (ks (ks k0)))) (s_get (ks (ks (ks (ks k0)))) (s_get (ks (ks (ks (ks k0)))) (s_get (ks (ks (ks (ks k0)))) (s_take (s_take (s_skip (s_take (s_take s_nil))))))))))⟩ ?_
    rintro mm sh G ⟨l3, c3, c4, c5, c6, c7, c8, z1, v9, g6, v10, g7, v11, g8, v12, g9, rfl, rfl, hm, ho8, ho9, ho10, ho11⟩
    obtain ⟨mm1, rfl, hm⟩ := it8_s hm
    refine c_seq ?_
    refine c_seq ?_
    refine c_joinP (n := 0) (fun sh G => sh = [(69, .bool (((decide (c4 < (sb.length : Int))) || (decide (c5 < (so.length : Int)))) || (decide (c6 < (st.length : Int)))))] ∧ G = []) Sel.all' .z (fun _ _ h => h) ?_ ?_
    · skip
      refine c_region ?_
      refine o_T (y_move rfl) rfl ?_
      refine o_T (y_move rfl) rfl ?_
      refine o_T (y_lenR hr1 Tryz.underlying57 rfl) rfl ?_
      refine o_T (y_lss rfl rfl) rfl ?_
      refine o_T (y_move rfl) rfl ?_
      refine o_split 58 rfl (fun h1 => ?_) (fun h1 => ?_)
      · skip
        refine o_pass rfl rfl rfl rfl rfl ?_
        refine o_pass rfl rfl rfl rfl rfl ?_
        refine o_pass rfl rfl rfl rfl rfl ?_
        refine o_pass rfl rfl rfl rfl rfl ?_
        refine o_T (y_pickT rfl rfl) rfl ?_
        refine o_T (y_move rfl) rfl ?_
        refine o_pass rfl rfl rfl rfl rfl ?_
        refine o_pass rfl rfl rfl rfl rfl ?_
        refine o_pass rfl rfl rfl rfl rfl ?_
        refine o_pass rfl rfl rfl rfl rfl ?_
        refine o_T (y_pickT rfl rfl) rfl ?_
        refine o_nil1 69 rfl rfl ?_
        refine ⟨_, _, ⟨rfl, rfl⟩, ⟨by first | rfl | exact gtb rfl (by simp only [h1, Bool.true_and, Bool.false_and, Bool.true_or, Bool.false_or, Bool.and_true, Bool.and_false, Bool.or_true, Bool.or_false, Bool.not_true, Bool.not_false]), trivial⟩, ⟨rfl, rfl⟩, _, (s_take (s_take (s_take (s_take (s_take (s_take (s_take (s_take (s_take s_nil)))))))))⟩
      · skip
        refine o_take rfl rfl rfl ?_
        refine o_T (y_move rfl) rfl ?_
        refine o_take rfl rfl rfl ?_
        refine o_T (y_move rfl) rfl ?_
        refine o_take rfl rfl rfl ?_
        refine o_T (y_lenR hr2 Tryz.underlying57 rfl) rfl ?_
        refine o_take rfl rfl rfl ?_
        refine o_T (y_lss rfl rfl) rfl ?_
        refine o_T (y_pickF rfl rfl) rfl ?_
        refine o_T (y_move rfl) rfl ?_
        refine o_split 64 rfl (fun h2 => ?_) (fun h2 => ?_)
        · skip
          refine o_pass rfl rfl rfl rfl rfl ?_
          refine o_pass rfl rfl rfl rfl rfl ?_
          refine o_pass rfl rfl rfl rfl rfl ?_
          refine o_pass rfl rfl rfl rfl rfl ?_
          refine o_T (y_pickT rfl rfl) rfl ?_
          refine o_nil1 69 rfl rfl ?_
          refine ⟨_, _, ⟨rfl, rfl⟩, ⟨by first | rfl | exact gtb rfl (by simp only [h1, h2, Bool.true_and, Bool.false_and, Bool.true_or, Bool.false_or, Bool.and_true, Bool.and_false, Bool.or_true, Bool.or_false, Bool.not_true, Bool.not_false]), trivial⟩, ⟨rfl, rfl⟩, _, (s_take (s_take (s_take (s_take (s_take (s_take (s_take (s_take (s_take s_nil)))))))))⟩
        · skip
          refine o_take rfl rfl rfl ?_
          refine o_T (y_move rfl) rfl ?_
          refine o_take rfl rfl rfl ?_
          refine o_T (y_move rfl) rfl ?_
          refine o_take rfl rfl rfl ?_
          refine o_T (y_lenR hr3 Tryz.underlying57 rfl) rfl ?_
          refine o_take rfl rfl rfl ?_
          refine o_T (y_lss rfl rfl) rfl ?_
          refine o_T (y_pickF rfl rfl) rfl ?_
          refine o_nil1 69 rfl rfl ?_
          refine ⟨_, _, ⟨rfl, rfl⟩, ⟨by first | rfl | exact gtb rfl (by simp only [h1, h2, Bool.true_and, Bool.false_and, Bool.true_or, Bool.false_or, Bool.and_true, Bool.and_false, Bool.or_true, Bool.or_false, Bool.not_true, Bool.not_false]), trivial⟩, ⟨rfl, rfl⟩, _, (s_take (s_take (s_take (s_take (s_take (s_take (s_take (s_take (s_take s_nil)))))))))⟩
    · rintro sh G ⟨rfl, rfl⟩
      refine c_cond rfl (fun h3 => ?_) (fun h3 => ?_)
      · have hm := cd_t h3 hm
        refine c_skip ?_
        refine c_block ?_
        refine c_seq ?_
        refine c_region ?_
        refine o_T (y_move rfl) rfl ?_
        refine o_T (y_move rfl) rfl ?_
        obtain ⟨c15, hx3, hm⟩ := bd1 hm
        refine o_callC en_225 rfl s_nil (t225 (hr1.mono (fun _ hz => (ms (ms (ms (ms (ms (ms (ms (ms (mg hz))))))))))) hx3) rfl (fun u3 S3 hR3 => ?_)
        obtain ⟨rfl, rfl⟩ := hR3
        refine o_rest ?_
        refine o_L (y_assign rfl) rfl rfl ?_
        refine o_nil0 rfl ?_
        refine c_seq ?_
        refine c_region ?_
        refine o_T (y_move rfl) rfl ?_
        refine o_T (y_move rfl) rfl ?_
        refine o_T (y_move rfl) rfl ?_
        obtain ⟨c16, hx4, hm⟩ := bd1 hm
        refine o_callC en_225 rfl s_nil (t225 (hr2.mono (fun _ hz => (ms (ms (ms (ms (ms (ms (ms (ms (mg hz))))))))))) hx4) rfl (fun u4 S4 hR4 => ?_)
        obtain ⟨rfl, rfl⟩ := hR4
        refine o_rest ?_
        refine o_L (y_assign rfl) rfl rfl ?_
        refine o_nil0 rfl ?_
        refine c_seq ?_
        refine c_region ?_
        refine o_T (y_move rfl) rfl ?_
        refine o_T (y_move rfl) rfl ?_
        refine o_T (y_move rfl) rfl ?_
        obtain ⟨c17, hx5, hm⟩ := bd1 hm
        refine o_callC en_225 rfl s_nil (t225 (hr3.mono (fun _ hz => (ms (ms (ms (ms (ms (ms (ms (ms (mg hz))))))))))) hx5) rfl (fun u5 S5 hR5 => ?_)
        obtain ⟨rfl, rfl⟩ := hR5
        refine o_rest ?_
        refine o_L (y_assign rfl) rfl rfl ?_
        refine o_nil0 rfl ?_
        refine c_seq ?_
        refine c_region ?_
        refine o_T (y_move rfl) rfl ?_
        refine o_T (y_move rfl) rfl ?_
        refine o_T (y_move rfl) rfl ?_
        obtain ⟨c18, c19, hx6, hm⟩ := bd2 hm
        refine o_callC en_226 rfl s_nil (t226 (hr1.mono (fun _ hz => (ms (ms (ms (ms (ms (ms (ms (ms (mg hz))))))))))) hx6) rfl (fun u6 S6 hR6 => ?_)
        obtain ⟨rfl, rfl⟩ := hR6
        refine o_rest ?_
        refine o_T (y_move rfl) rfl ?_
        refine o_T (y_extract rfl rfl) rfl ?_
        refine o_T (y_extract rfl rfl) rfl ?_
        refine o_L (y_assign rfl) rfl rfl ?_
        refine o_L (y_assign rfl) rfl rfl ?_
        refine o_nil0 rfl ?_
        refine c_seq ?_
        refine c_region ?_
        refine o_T (y_move rfl) rfl ?_
        refine o_T (y_move rfl) rfl ?_
        refine o_T (y_move rfl) rfl ?_
        obtain ⟨c20, c21, hx7, hm⟩ := bd2 hm
        refine o_callC en_226 rfl s_nil (t226 (hr2.mono (fun _ hz => (ms (ms (ms (ms (ms (ms (ms (ms (mg hz))))))))))) hx7) rfl (fun u7 S7 hR7 => ?_)
        obtain ⟨rfl, rfl⟩ := hR7
        refine o_rest ?_
        refine o_T (y_move rfl) rfl ?_
        refine o_T (y_extract rfl rfl) rfl ?_
        refine o_T (y_extract rfl rfl) rfl ?_
        refine o_L (y_assign rfl) rfl rfl ?_
        refine o_L (y_assign rfl) rfl rfl ?_
        refine o_nil0 rfl ?_
        refine c_seq ?_
        refine c_region ?_
        refine o_T (y_move rfl) rfl ?_
        refine o_T (y_move rfl) rfl ?_
        refine o_T (y_move rfl) rfl ?_
        obtain ⟨c22, c23, hx8, hm⟩ := bd2 hm
        refine o_callC en_226 rfl s_nil (t226 (hr3.mono (fun _ hz => (ms (ms (ms (ms (ms (ms (ms (ms (mg hz))))))))))) hx8) rfl (fun u8 S8 hR8 => ?_)
        obtain ⟨rfl, rfl⟩ := hR8
        refine o_rest ?_
        refine o_T (y_move rfl) rfl ?_
        refine o_T (y_extract rfl rfl) rfl ?_
        refine o_T (y_extract rfl rfl) rfl ?_
        refine o_L (y_assign rfl) rfl rfl ?_
        refine o_L (y_assign rfl) rfl rfl ?_
        refine o_nil0 rfl ?_
        refine c_seq ?_
        refine c_region ?_
        refine o_T (y_move rfl) rfl ?_
        refine o_T (y_move rfl) rfl ?_
        refine o_T (y_move rfl) rfl ?_
        obtain ⟨c24, hx9, hm⟩ := bd1 hm
        refine o_callC en_227 rfl s_nil (t227 (ho5.rd.mono (fun _ hz => (ms (ms (ms (ms (ms (ms (mg hz))))))))) hx9) rfl (fun u9 S9 hR9 => ?_)
        obtain ⟨rfl, rfl⟩ := hR9
        refine o_rest ?_
        refine o_L (y_assign rfl) rfl rfl ?_
        refine o_nil0 rfl ?_
        refine c_seq ?_
        refine c_region ?_
        refine o_T (y_move rfl) rfl ?_
        refine o_T (y_move rfl) rfl ?_
        refine o_T (y_move rfl) rfl ?_
        obtain ⟨c25, hx10, hm⟩ := bd1 hm
        refine o_callC en_227 rfl s_nil (t227 (ho6.rd.mono (fun _ hz => (ms (ms (ms (ms (ms (mg hz)))))))) hx10) rfl (fun u10 S10 hR10 => ?_)
        obtain ⟨rfl, rfl⟩ := hR10
        refine o_rest ?_
        refine o_L (y_assign rfl) rfl rfl ?_
        refine o_nil0 rfl ?_
        refine c_seq ?_
        refine c_seq ?_
        refine c_joinP (n := 0) (fun sh G => sh = [(121, .bool ((!c25) || ((c21 == c23) && (decide (c20 = c22)))))] ∧ G = []) Sel.all' .z (fun _ _ h => h) ?_ ?_
        · skip
          refine c_region ?_
          refine o_T (y_move rfl) rfl ?_
          refine o_T (y_not rfl) rfl ?_
          refine o_T (y_move rfl) rfl ?_
          refine o_split 112 rfl (fun h4 => ?_) (fun h4 => ?_)
          · skip
            refine o_pass rfl rfl rfl rfl rfl ?_
            refine o_pass rfl rfl rfl rfl rfl ?_
            refine o_pass rfl rfl rfl rfl rfl ?_
            refine o_pass rfl rfl rfl rfl rfl ?_
            refine o_passU rfl rfl rfl rfl ?_
            refine o_passU rfl rfl rfl rfl ?_
            refine o_passU rfl rfl rfl rfl ?_
            refine o_pass rfl rfl rfl rfl rfl ?_
            refine o_T (y_pickT rfl rfl) rfl ?_
            refine o_nil1 121 rfl rfl ?_
            refine ⟨_, _, ⟨rfl, rfl⟩, ⟨by first | rfl | exact gtb rfl (by simp only [h4, Bool.true_and, Bool.false_and, Bool.true_or, Bool.false_or, Bool.and_true, Bool.and_false, Bool.or_true, Bool.or_false, Bool.not_true, Bool.not_false]), trivial⟩, ⟨rfl, rfl⟩, _, (s_take (s_take (s_take (s_take (s_take (s_take (s_take (s_take (s_take s_nil)))))))))⟩
          · skip
            refine o_take rfl rfl rfl ?_
            refine o_T (y_move rfl) rfl ?_
            refine o_take rfl rfl rfl ?_
            refine o_T (y_move rfl) rfl ?_
            refine o_take rfl rfl rfl ?_
            refine o_T (y_beq Tryz.underlying4 rfl rfl) rfl ?_
            refine o_take rfl rfl rfl ?_
            refine o_T (y_move rfl) rfl ?_
            refine o_split 116 rfl (fun h5 => ?_) (fun h5 => ?_)
            · skip
              refine o_take rfl rfl rfl ?_
              refine o_T (y_move rfl) rfl ?_
              refine o_take rfl rfl rfl ?_
              refine o_T (y_move rfl) rfl ?_
              refine o_take rfl rfl rfl ?_
              refine o_T (y_seq rfl rfl) rfl ?_
              refine o_take rfl rfl rfl ?_
              refine o_T (y_pickT rfl rfl) rfl ?_
              refine o_T (y_pickF rfl rfl) rfl ?_
              refine o_nil1 121 rfl rfl ?_
              refine ⟨_, _, ⟨rfl, rfl⟩, ⟨by first | rfl | exact gtb rfl (by simp only [h4, h5, Bool.true_and, Bool.false_and, Bool.true_or, Bool.false_or, Bool.and_true, Bool.and_false, Bool.or_true, Bool.or_false, Bool.not_true, Bool.not_false]), trivial⟩, ⟨rfl, rfl⟩, _, (s_take (s_take (s_take (s_take (s_take (s_take (s_take (s_take (s_take s_nil)))))))))⟩
            · skip
              refine o_pass rfl rfl rfl rfl rfl ?_
              refine o_pass rfl rfl rfl rfl rfl ?_
              refine o_pass rfl rfl rfl rfl rfl ?_
              refine o_take rfl rfl rfl ?_
              refine o_T (y_pickF rfl rfl) rfl ?_
              refine o_T (y_pickF rfl rfl) rfl ?_
              refine o_nil1 121 rfl rfl ?_
              refine ⟨_, _, ⟨rfl, rfl⟩, ⟨by first | rfl | exact gtb rfl (by simp only [h4, h5, Bool.true_and, Bool.false_and, Bool.true_or, Bool.false_or, Bool.and_true, Bool.and_false, Bool.or_true, Bool.or_false, Bool.not_true, Bool.not_false]), trivial⟩, ⟨rfl, rfl⟩, _, (s_take (s_take (s_take (s_take (s_take (s_take (s_take (s_take (s_take s_nil)))))))))⟩
        · rintro sh G ⟨rfl, rfl⟩
          obtain ⟨l5, c26, z3, hj2, hm⟩ := bd3 hm
          refine c_joinP (n := 5) (fun sh G => ∃ (v17 : Value), ∃ (g14 : List Chunk), ∃ (v18 : Value), ∃ (g15 : List Chunk), ∃ (v19 : Value), ∃ (g16 : List Chunk), ∃ (v20 : Value), ∃ (g17 : List Chunk), sh = [(14, v17), (15, .int .i64 c26)] ∧ G = [g14, [(b2, .cells (Engine.enc (v18) (v19) (v20) z3).toArray 187 (0, 0))], g15, g16, g17] ∧ Own rFile v17 l5 g14 ∧ Own rStr v18 z3.line_ g15 ∧ Own rInt v19 z3.sum g16 ∧ Own rInt v20 z3.nxt g17) (s_take (s_take (s_take (s_take (s_take (s_take (s_take (s_take (s_take s_nil))))))))) (.s (.s (.s (.s (.s .z))))) (fun _ _ h => h) ?_ ?_
          · have hm := hj2
            refine c_cond rfl (fun h6 => ?_) (fun h6 => ?_)
            · have hm := cd_t h6 hm
              refine c_seq ?_
              refine c_region ?_
              refine o_T (y_move rfl) rfl ?_
              refine o_nil1 122 rfl rfl ?_
              refine c_cond rfl (fun h7 => ?_) (fun h7 => ?_)
              · have hm := cd_t h7 hm
                refine c_region ?_
                refine o_T (y_move rfl) rfl ?_
                refine o_T (y_move rfl) rfl ?_
                refine o_T (y_move rfl) rfl ?_
                refine o_T (y_build st_71 rfl (fbU rfl File.u_path rfl rfl (fbU rfl File.u_data rfl rfl fbU0))) rfl ?_
                refine o_bs1 sz_57 rfl rfl rfl rfl rfl rfl (fun b3 => ?_)
                obtain ⟨l6, hx11, hm⟩ := bd hm
                refine o_appR (R := rFile) (a := ({ File.zero with path := c17, data := c20 })) sz_57 rfl rfl rfl rfl ho8 rfl hx11 (Sel.e (s_get (ks k0) (s_take s_nil))) rfl (fun v21 g18 ho20 => ?_)
                refine o_L (y_assign rfl) rfl rfl ?_
                refine o_nil0 rfl ?_
                obtain ⟨rfl, rfl, rfl⟩ := pr3 hm
                exact ⟨_, _, ⟨v21, _, v10, _, v11, _, v12, _, rfl, rfl, ho20, ho9, ho10, ho11⟩, ⟨rfl, rfl, trivial⟩, ⟨rfl, rfl⟩, _, (s_take (s_take (s_take (s_take (s_take (s_take (s_take (s_take (s_take s_nil)))))))))⟩
              · have hm := cd_f h7 hm
                refine c_skip ?_
                obtain ⟨rfl, rfl, rfl⟩ := pr3 hm
                exact ⟨_, _, ⟨v9, _, v10, _, v11, _, v12, _, rfl, rfl, ho8, ho9, ho10, ho11⟩, ⟨rfl, rfl, trivial⟩, ⟨rfl, rfl⟩, _, (s_take (s_take (s_take (s_take (s_take (s_take (s_take (s_take (s_take s_nil)))))))))⟩
            · have hm := cd_f h6 hm
              refine c_seq ?_
              refine c_region ?_
              refine o_T (y_move rfl) rfl ?_
              refine o_T (y_not rfl) rfl ?_
              refine o_nil1 130 rfl rfl ?_
              refine c_cond rfl (fun h8 => ?_) (fun h8 => ?_)
              · have hm := cd_t h8 hm
                refine c_seq ?_
                refine c_region ?_
                refine o_T (y_move rfl) rfl ?_
                refine o_nil1 131 rfl rfl ?_
                refine c_cond rfl (fun h9 => ?_) (fun h9 => ?_)
                · have hm := cd_t h9 hm
                  refine c_region ?_
                  refine o_T (y_move rfl) rfl ?_
                  refine o_T (y_move rfl) rfl ?_
                  refine o_T (y_move rfl) rfl ?_
                  refine o_T (y_build st_71 rfl (fbU rfl File.u_path rfl rfl (fbU rfl File.u_data rfl rfl fbU0))) rfl ?_
                  refine o_bs1 sz_57 rfl rfl rfl rfl rfl rfl (fun b4 => ?_)
                  obtain ⟨l7, hx12, hm⟩ := bd hm
                  refine o_appR (R := rFile) (a := ({ File.zero with path := c17, data := c22 })) sz_57 rfl rfl rfl rfl ho8 rfl hx12 (Sel.e (s_get (ks k0) (s_take s_nil))) rfl (fun v22 g19 ho21 => ?_)
                  refine o_L (y_assign rfl) rfl rfl ?_
                  refine o_nil0 rfl ?_
                  obtain ⟨rfl, rfl, rfl⟩ := pr3 hm
                  exact ⟨_, _, ⟨v22, _, v10, _, v11, _, v12, _, rfl, rfl, ho21, ho9, ho10, ho11⟩, ⟨rfl, rfl, trivial⟩, ⟨rfl, rfl⟩, _, (s_take (s_take (s_take (s_take (s_take (s_take (s_take (s_take (s_take s_nil)))))))))⟩
                · have hm := cd_f h9 hm
                  refine c_skip ?_
                  obtain ⟨rfl, rfl, rfl⟩ := pr3 hm
                  exact ⟨_, _, ⟨v9, _, v10, _, v11, _, v12, _, rfl, rfl, ho8, ho9, ho10, ho11⟩, ⟨rfl, rfl, trivial⟩, ⟨rfl, rfl⟩, _, (s_take (s_take (s_take (s_take (s_take (s_take (s_take (s_take (s_take s_nil)))))))))⟩
              · have hm := cd_f h8 hm
                refine c_seq ?_
                refine c_region ?_
                refine o_T (y_move rfl) rfl ?_
                refine o_T (y_nilck rfl) rfl ?_
                refine o_T (y_fa fl_130_2 rfl) rfl ?_
                refine o_ld one_32 rfl (ms (ms (ms (ms (ms (ms (ms m0))))))) (At.got (At.refl.comp RepoR.a_d)) rfl ?_
                refine o_T (y_move rfl) rfl ?_
                refine o_T (y_move rfl) rfl ?_
                refine o_T (y_move rfl) rfl ?_
                obtain ⟨c27, c28, c29, z4, hx13, hm⟩ := bd4 hm
                refine o_callC en_228 rfl (s_skip (s_take (s_take (s_take (s_take s_nil))))) (t228 ho9 ho10 ho11 hx13) rfl (fun u11 S11 hR11 => ?_)
                obtain ⟨v23, g20, v24, g21, v25, g22, rfl, rfl, ho22, ho23, ho24⟩ := hR11
                refine o_rest ?_
                refine o_T (y_move rfl) rfl ?_
                refine o_T (y_extract rfl rfl) rfl ?_
                refine o_T (y_extract rfl rfl) rfl ?_
                refine o_T (y_extract rfl rfl) rfl ?_
                refine o_L (y_assign rfl) rfl rfl ?_
                refine o_L (y_assign rfl) rfl rfl ?_
                refine o_L (y_assign rfl) rfl rfl ?_
                refine o_nil0 rfl ?_
                refine c_seq ?_
                refine c_region ?_
                refine o_T (y_move rfl) rfl ?_
                refine o_T (y_move rfl) rfl ?_
                refine o_T (y_build st_71 rfl (fbU rfl File.u_path rfl rfl (fbU rfl File.u_data rfl rfl fbU0))) rfl ?_
                refine o_alloc ze_71 rfl rfl (fun b5 => ?_)
                obtain ⟨z5, hn1, hm⟩ := nm_s hm
                refine o_stNA ag_71 rfl rfl (File.plain _) (File.len _) (Upd.refl ((File.len _).trans (File.len _).symm)) r0 (show (File.enc z5) = _ from by subst hn1; rfl) ?_
                refine o_nil0 rfl ?_
                refine c_seq ?_
                refine c_seq ?_
                refine c_region ?_
                refine o_T (y_move rfl) rfl ?_
                refine o_T (y_gtr rfl rfl) rfl ?_
                refine o_nil1 154 rfl rfl ?_
                refine c_cond rfl (fun h10 => ?_) (fun h10 => ?_)
                · have hm := cd_t h10 hm
                  refine c_seq ?_
                  refine c_region ?_
                  refine o_T (y_fa fl_71_2 rfl) rfl ?_
                  obtain ⟨z6, hn2, hm⟩ := nm_s hm
                  refine o_stN one_3 rfl rfl rfl (Upd.z File.u_mode) r0 (show (File.enc z6) = _ from by subst hn2; rfl) ?_
                  refine o_nil0 rfl ?_
                  refine c_region ?_
                  refine o_T (y_move rfl) rfl ?_
                  refine o_T (y_add rfl rfl rfl) rfl ?_
                  refine o_L (y_assign rfl) rfl rfl ?_
                  refine o_nil0 rfl ?_
                  refine c_region ?_
                  refine o_T (y_move rfl) rfl ?_
                  refine o_lda ag_71 rfl m0 (At.exs At.refl (File.len _)) (At.fits At.refl (File.len _)) rfl ?_
                  refine o_bs1 sz_57 rfl rfl rfl rfl rfl rfl (fun b6 => ?_)
                  obtain ⟨l8, hx14, hm⟩ := bd hm
                  refine o_appR (R := rFile) (a := z6) sz_57 rfl rfl rfl rfl ho8 rfl hx14 (Sel.e (s_get (ks (ks (ks (ks (ks (ks k0)))))) (s_take s_nil))) rfl (fun v26 g23 ho25 => ?_)
                  refine o_L (y_assign rfl) rfl rfl ?_
                  refine o_nil0 rfl ?_
                  obtain ⟨rfl, rfl, rfl⟩ := pr3 hm
                  exact ⟨_, _, ⟨v26, _, v23, _, v24, _, v25, _, rfl, rfl, ho25, ho22, ho23, ho24⟩, ⟨rfl, rfl, trivial⟩, ⟨rfl, rfl⟩, _, (s_take (s_skip (s_take (s_take (s_take (s_take (s_take (s_take (s_take (s_take s_nil))))))))))⟩
                · have hm := cd_f h10 hm
                  refine c_skip ?_
                  refine c_region ?_
                  refine o_T (y_move rfl) rfl ?_
                  refine o_lda ag_71 rfl m0 (At.exs At.refl (File.len _)) (At.fits At.refl (File.len _)) rfl ?_
                  refine o_bs1 sz_57 rfl rfl rfl rfl rfl rfl (fun b7 => ?_)
                  obtain ⟨l9, hx15, hm⟩ := bd hm
                  refine o_appR (R := rFile) (a := z5) sz_57 rfl rfl rfl rfl ho8 rfl hx15 (Sel.e (s_get (ks (ks (ks (ks (ks (ks k0)))))) (s_take s_nil))) rfl (fun v27 g24 ho26 => ?_)
                  refine o_L (y_assign rfl) rfl rfl ?_
                  refine o_nil0 rfl ?_
                  obtain ⟨rfl, rfl, rfl⟩ := pr3 hm
                  exact ⟨_, _, ⟨v27, _, v23, _, v24, _, v25, _, rfl, rfl, ho26, ho22, ho23, ho24⟩, ⟨rfl, rfl, trivial⟩, ⟨rfl, rfl⟩, _, (s_take (s_skip (s_take (s_take (s_take (s_take (s_take (s_take (s_take (s_take s_nil))))))))))⟩
          · rintro sh G ⟨v17, g14, v18, g15, v19, g16, v20, g17, rfl, rfl, ho16, ho17, ho18, ho19⟩
            refine c_seq ?_
            refine c_seq ?_
            refine c_region ?_
            refine o_T (y_move rfl) rfl ?_
            refine o_nil1 162 rfl rfl ?_
            obtain ⟨c30, hj3, hm⟩ := bd1 hm
            refine c_joinP (n := 0) (fun sh G => sh = [(16, .int .i64 c30)] ∧ G = []) (s_take (s_take (s_take (s_take (s_take (s_take (s_take (s_take (s_take s_nil))))))))) .z (fun _ _ h => h) ?_ ?_
            · have hm := hj3
              refine c_cond rfl (fun h11 => ?_) (fun h11 => ?_)
              · have hm := cd_t h11 hm
                refine c_region ?_
                refine o_T (y_move rfl) rfl ?_
                refine o_T (y_add rfl rfl rfl) rfl ?_
                refine o_L (y_assign rfl) rfl rfl ?_
                refine o_nil0 rfl ?_
                obtain rfl := p1 hm
                exact ⟨_, _, ⟨rfl, rfl⟩, ⟨rfl, trivial⟩, ⟨rfl, rfl⟩, _, (s_take (s_take (s_take (s_take (s_take (s_take (s_take (s_take (s_take s_nil)))))))))⟩
              · have hm := cd_f h11 hm
                refine c_skip ?_
                obtain rfl := p1 hm
                exact ⟨_, _, ⟨rfl, rfl⟩, ⟨rfl, trivial⟩, ⟨rfl, rfl⟩, _, (s_take (s_take (s_take (s_take (s_take (s_take (s_take (s_take (s_take s_nil)))))))))⟩
            · rintro sh G ⟨rfl, rfl⟩
              refine c_seq ?_
              refine c_seq ?_
              refine c_region ?_
              refine o_T (y_move rfl) rfl ?_
              refine o_nil1 165 rfl rfl ?_
              refine c_cond rfl (fun h12 => ?_) (fun h12 => ?_)
              · have hm := cd_t h12 hm
                refine c_region ?_
                refine o_T (y_move rfl) rfl ?_
                refine o_T (y_add rfl rfl rfl) rfl ?_
                refine o_L (y_assign rfl) rfl rfl ?_
                refine o_nil0 rfl ?_
                refine c_seq ?_
                refine c_seq ?_
                refine c_region ?_
                refine o_T (y_move rfl) rfl ?_
                refine o_nil1 168 rfl rfl ?_
                refine c_cond rfl (fun h13 => ?_) (fun h13 => ?_)
                · have hm := cd_t h13 hm
                  refine c_region ?_
                  refine o_T (y_move rfl) rfl ?_
                  refine o_T (y_add rfl rfl rfl) rfl ?_
                  refine o_L (y_assign rfl) rfl rfl ?_
                  refine o_nil0 rfl ?_
                  refine c_seq ?_
                  refine c_seq ?_
                  refine c_region ?_
                  refine o_T (y_move rfl) rfl ?_
                  refine o_nil1 171 rfl rfl ?_
                  refine c_cond rfl (fun h14 => ?_) (fun h14 => ?_)
                  · have hm := cd_t h14 hm
                    refine c_region ?_
                    refine o_T (y_move rfl) rfl ?_
                    refine o_T (y_add rfl rfl rfl) rfl ?_
                    refine o_L (y_assign rfl) rfl rfl ?_
                    refine o_nil0 rfl ?_
                    refine c_seq ?_
                    refine c_region ?_
                    refine o_T (y_move rfl) rfl ?_
                    refine o_nil1 174 rfl rfl ?_
                    refine c_cond rfl (fun h15 => ?_) (fun h15 => ?_)
                    · have hm := cd_t h15 hm
                      refine c_region ?_
                      refine o_T (y_move rfl) rfl ?_
                      refine o_T (y_add rfl rfl rfl) rfl ?_
                      refine o_L (y_assign rfl) rfl rfl ?_
                      refine o_nil0 rfl ?_
                      exact ⟨mm1, Nat.lt_succ_self _, _, _, ⟨_, _, _, _, _, _, _, _, v17, _, v18, _, v19, _, v20, _, rfl, rfl, hm, ho16, ho17, ho18, ho19⟩, ⟨rfl, rfl, rfl, rfl, rfl, rfl, rfl, trivial⟩, ⟨rfl, rfl⟩, _, (s_take (s_take (s_take (s_take (s_take (s_take (s_take (s_take (s_take s_nil)))))))))⟩
                    · have hm := cd_f h15 hm
                      refine c_skip ?_
                      exact ⟨mm1, Nat.lt_succ_self _, _, _, ⟨_, _, _, _, _, _, _, _, v17, _, v18, _, v19, _, v20, _, rfl, rfl, hm, ho16, ho17, ho18, ho19⟩, ⟨rfl, rfl, rfl, rfl, rfl, rfl, rfl, trivial⟩, ⟨rfl, rfl⟩, _, (s_take (s_take (s_take (s_take (s_take (s_take (s_take (s_take (s_take s_nil)))))))))⟩
                  · have hm := cd_f h14 hm
                    refine c_skip ?_
                    refine c_seq ?_
                    refine c_region ?_
                    refine o_T (y_move rfl) rfl ?_
                    refine o_nil1 174 rfl rfl ?_
                    refine c_cond rfl (fun h16 => ?_) (fun h16 => ?_)
                    · have hm := cd_t h16 hm
                      refine c_region ?_
                      refine o_T (y_move rfl) rfl ?_
                      refine o_T (y_add rfl rfl rfl) rfl ?_
                      refine o_L (y_assign rfl) rfl rfl ?_
                      refine o_nil0 rfl ?_
                      exact ⟨mm1, Nat.lt_succ_self _, _, _, ⟨_, _, _, _, _, _, _, _, v17, _, v18, _, v19, _, v20, _, rfl, rfl, hm, ho16, ho17, ho18, ho19⟩, ⟨rfl, rfl, rfl, rfl, rfl, rfl, rfl, trivial⟩, ⟨rfl, rfl⟩, _, (s_take (s_take (s_take (s_take (s_take (s_take (s_take (s_take (s_take s_nil)))))))))⟩
                    · have hm := cd_f h16 hm
                      refine c_skip ?_
                      exact ⟨mm1, Nat.lt_succ_self _, _, _, ⟨_, _, _, _, _, _, _, _, v17, _, v18, _, v19, _, v20, _, rfl, rfl, hm, ho16, ho17, ho18, ho19⟩, ⟨rfl, rfl, rfl, rfl, rfl, rfl, rfl, trivial⟩, ⟨rfl, rfl⟩, _, (s_take (s_take (s_take (s_take (s_take (s_take (s_take (s_take (s_take s_nil)))))))))⟩
                · have hm := cd_f h13 hm
                  refine c_skip ?_
                  refine c_seq ?_
                  refine c_seq ?_
                  refine c_region ?_
                  refine o_T (y_move rfl) rfl ?_
                  refine o_nil1 171 rfl rfl ?_
                  refine c_cond rfl (fun h17 => ?_) (fun h17 => ?_)
                  · have hm := cd_t h17 hm
                    refine c_region ?_
                    refine o_T (y_move rfl) rfl ?_
                    refine o_T (y_add rfl rfl rfl) rfl ?_
                    refine o_L (y_assign rfl) rfl rfl ?_
                    refine o_nil0 rfl ?_
                    refine c_seq ?_
                    refine c_region ?_
                    refine o_T (y_move rfl) rfl ?_
                    refine o_nil1 174 rfl rfl ?_
                    refine c_cond rfl (fun h18 => ?_) (fun h18 => ?_)
                    · have hm := cd_t h18 hm
                      refine c_region ?_
                      refine o_T (y_move rfl) rfl ?_
                      refine o_T (y_add rfl rfl rfl) rfl ?_
                      refine o_L (y_assign rfl) rfl rfl ?_
                      refine o_nil0 rfl ?_
                      exact ⟨mm1, Nat.lt_succ_self _, _, _, ⟨_, _, _, _, _, _, _, _, v17, _, v18, _, v19, _, v20, _, rfl, rfl, hm, ho16, ho17, ho18, ho19⟩, ⟨rfl, rfl, rfl, rfl, rfl, rfl, rfl, trivial⟩, ⟨rfl, rfl⟩, _, (s_take (s_take (s_take (s_take (s_take (s_take (s_take (s_take (s_take s_nil)))))))))⟩
                    · have hm := cd_f h18 hm
                      refine c_skip ?_
                      exact ⟨mm1, Nat.lt_succ_self _, _, _, ⟨_, _, _, _, _, _, _, _, v17, _, v18, _, v19, _, v20, _, rfl, rfl, hm, ho16, ho17, ho18, ho19⟩, ⟨rfl, rfl, rfl, rfl, rfl, rfl, rfl, trivial⟩, ⟨rfl, rfl⟩, _, (s_take (s_take (s_take (s_take (s_take (s_take (s_take (s_take (s_take s_nil)))))))))⟩
                  · have hm := cd_f h17 hm
                    refine c_skip ?_
                    refine c_seq ?_
                    refine c_region ?_
                    refine o_T (y_move rfl) rfl ?_
                    refine o_nil1 174 rfl rfl ?_
                    refine c_cond rfl (fun h19 => ?_) (fun h19 => ?_)
                    · have hm := cd_t h19 hm
                      refine c_region ?_
                      refine o_T (y_move rfl) rfl ?_
                      refine o_T (y_add rfl rfl rfl) rfl ?_
                      refine o_L (y_assign rfl) rfl rfl ?_
                      refine o_nil0 rfl ?_
                      exact ⟨mm1, Nat.lt_succ_self _, _, _, ⟨_, _, _, _, _, _, _, _, v17, _, v18, _, v19, _, v20, _, rfl, rfl, hm, ho16, ho17, ho18, ho19⟩, ⟨rfl, rfl, rfl, rfl, rfl, rfl, rfl, trivial⟩, ⟨rfl, rfl⟩, _, (s_take (s_take (s_take (s_take (s_take (s_take (s_take (s_take (s_take s_nil)))))))))⟩
                    · have hm := cd_f h19 hm
                      refine c_skip ?_
                      exact ⟨mm1, Nat.lt_succ_self _, _, _, ⟨_, _, _, _, _, _, _, _, v17, _, v18, _, v19, _, v20, _, rfl, rfl, hm, ho16, ho17, ho18, ho19⟩, ⟨rfl, rfl, rfl, rfl, rfl, rfl, rfl, trivial⟩, ⟨rfl, rfl⟩, _, (s_take (s_take (s_take (s_take (s_take (s_take (s_take (s_take (s_take s_nil)))))))))⟩
              · have hm := cd_f h12 hm
                refine c_skip ?_
                refine c_seq ?_
                refine c_seq ?_
                refine c_region ?_
                refine o_T (y_move rfl) rfl ?_
                refine o_nil1 168 rfl rfl ?_
                refine c_cond rfl (fun h20 => ?_) (fun h20 => ?_)
                · have hm := cd_t h20 hm
                  refine c_region ?_
                  refine o_T (y_move rfl) rfl ?_
                  refine o_T (y_add rfl rfl rfl) rfl ?_
                  refine o_L (y_assign rfl) rfl rfl ?_
                  refine o_nil0 rfl ?_
                  refine c_seq ?_
                  refine c_seq ?_
                  refine c_region ?_
                  refine o_T (y_move rfl) rfl ?_
                  refine o_nil1 171 rfl rfl ?_
                  refine c_cond rfl (fun h21 => ?_) (fun h21 => ?_)
                  · have hm := cd_t h21 hm
                    refine c_region ?_
                    refine o_T (y_move rfl) rfl ?_
                    refine o_T (y_add rfl rfl rfl) rfl ?_
                    refine o_L (y_assign rfl) rfl rfl ?_
                    refine o_nil0 rfl ?_
                    refine c_seq ?_
                    refine c_region ?_
                    refine o_T (y_move rfl) rfl ?_
                    refine o_nil1 174 rfl rfl ?_
                    refine c_cond rfl (fun h22 => ?_) (fun h22 => ?_)
                    · have hm := cd_t h22 hm
                      refine c_region ?_
                      refine o_T (y_move rfl) rfl ?_
                      refine o_T (y_add rfl rfl rfl) rfl ?_
                      refine o_L (y_assign rfl) rfl rfl ?_
                      refine o_nil0 rfl ?_
                      exact ⟨mm1, Nat.lt_succ_self _, _, _, ⟨_, _, _, _, _, _, _, _, v17, _, v18, _, v19, _, v20, _, rfl, rfl, hm, ho16, ho17, ho18, ho19⟩, ⟨rfl, rfl, rfl, rfl, rfl, rfl, rfl, trivial⟩, ⟨rfl, rfl⟩, _, (s_take (s_take (s_take (s_take (s_take (s_take (s_take (s_take (s_take s_nil)))))))))⟩
                    · have hm := cd_f h22 hm
                      refine c_skip ?_
                      exact ⟨mm1, Nat.lt_succ_self _, _, _, ⟨_, _, _, _, _, _, _, _, v17, _, v18, _, v19, _, v20, _, rfl, rfl, hm, ho16, ho17, ho18, ho19⟩, ⟨rfl, rfl, rfl, rfl, rfl, rfl, rfl, trivial⟩, ⟨rfl, rfl⟩, _, (s_take (s_take (s_take (s_take (s_take (s_take (s_take (s_take (s_take s_nil)))))))))⟩
                  · have hm := cd_f h21 hm
                    refine c_skip ?_
                    refine c_seq ?_
                    refine c_region ?_
                    refine o_T (y_move rfl) rfl ?_
                    refine o_nil1 174 rfl rfl ?_
                    refine c_cond rfl (fun h23 => ?_) (fun h23 => ?_)
                    · have hm := cd_t h23 hm
                      refine c_region ?_
                      refine o_T (y_move rfl) rfl ?_
                      refine o_T (y_add rfl rfl rfl) rfl ?_
                      refine o_L (y_assign rfl) rfl rfl ?_
                      refine o_nil0 rfl ?_
                      exact ⟨mm1, Nat.lt_succ_self _, _, _, ⟨_, _, _, _, _, _, _, _, v17, _, v18, _, v19, _, v20, _, rfl, rfl, hm, ho16, ho17, ho18, ho19⟩, ⟨rfl, rfl, rfl, rfl, rfl, rfl, rfl, trivial⟩, ⟨rfl, rfl⟩, _, (s_take (s_take (s_take (s_take (s_take (s_take (s_take (s_take (s_take s_nil)))))))))⟩
                    · have hm := cd_f h23 hm
                      refine c_skip ?_
                      exact ⟨mm1, Nat.lt_succ_self _, _, _, ⟨_, _, _, _, _, _, _, _, v17, _, v18, _, v19, _, v20, _, rfl, rfl, hm, ho16, ho17, ho18, ho19⟩, ⟨rfl, rfl, rfl, rfl, rfl, rfl, rfl, trivial⟩, ⟨rfl, rfl⟩, _, (s_take (s_take (s_take (s_take (s_take (s_take (s_take (s_take (s_take s_nil)))))))))⟩
                · have hm := cd_f h20 hm
                  refine c_skip ?_
                  refine c_seq ?_
                  refine c_seq ?_
                  refine c_region ?_
                  refine o_T (y_move rfl) rfl ?_
                  refine o_nil1 171 rfl rfl ?_
                  refine c_cond rfl (fun h24 => ?_) (fun h24 => ?_)
                  · have hm := cd_t h24 hm
                    refine c_region ?_
                    refine o_T (y_move rfl) rfl ?_
                    refine o_T (y_add rfl rfl rfl) rfl ?_
                    refine o_L (y_assign rfl) rfl rfl ?_
                    refine o_nil0 rfl ?_
                    refine c_seq ?_
                    refine c_region ?_
                    refine o_T (y_move rfl) rfl ?_
                    refine o_nil1 174 rfl rfl ?_
                    refine c_cond rfl (fun h25 => ?_) (fun h25 => ?_)
                    · have hm := cd_t h25 hm
                      refine c_region ?_
                      refine o_T (y_move rfl) rfl ?_
                      refine o_T (y_add rfl rfl rfl) rfl ?_
                      refine o_L (y_assign rfl) rfl rfl ?_
                      refine o_nil0 rfl ?_
                      exact ⟨mm1, Nat.lt_succ_self _, _, _, ⟨_, _, _, _, _, _, _, _, v17, _, v18, _, v19, _, v20, _, rfl, rfl, hm, ho16, ho17, ho18, ho19⟩, ⟨rfl, rfl, rfl, rfl, rfl, rfl, rfl, trivial⟩, ⟨rfl, rfl⟩, _, (s_take (s_take (s_take (s_take (s_take (s_take (s_take (s_take (s_take s_nil)))))))))⟩
                    · have hm := cd_f h25 hm
                      refine c_skip ?_
                      exact ⟨mm1, Nat.lt_succ_self _, _, _, ⟨_, _, _, _, _, _, _, _, v17, _, v18, _, v19, _, v20, _, rfl, rfl, hm, ho16, ho17, ho18, ho19⟩, ⟨rfl, rfl, rfl, rfl, rfl, rfl, rfl, trivial⟩, ⟨rfl, rfl⟩, _, (s_take (s_take (s_take (s_take (s_take (s_take (s_take (s_take (s_take s_nil)))))))))⟩
                  · have hm := cd_f h24 hm
                    refine c_skip ?_
                    refine c_seq ?_
                    refine c_region ?_
                    refine o_T (y_move rfl) rfl ?_
                    refine o_nil1 174 rfl rfl ?_
                    refine c_cond rfl (fun h26 => ?_) (fun h26 => ?_)
                    · have hm := cd_t h26 hm
                      refine c_region ?_
                      refine o_T (y_move rfl) rfl ?_
                      refine o_T (y_add rfl rfl rfl) rfl ?_
                      refine o_L (y_assign rfl) rfl rfl ?_
                      refine o_nil0 rfl ?_
                      exact ⟨mm1, Nat.lt_succ_self _, _, _, ⟨_, _, _, _, _, _, _, _, v17, _, v18, _, v19, _, v20, _, rfl, rfl, hm, ho16, ho17, ho18, ho19⟩, ⟨rfl, rfl, rfl, rfl, rfl, rfl, rfl, trivial⟩, ⟨rfl, rfl⟩, _, (s_take (s_take (s_take (s_take (s_take (s_take (s_take (s_take (s_take s_nil)))))))))⟩
                    · have hm := cd_f h26 hm
                      refine c_skip ?_
                      exact ⟨mm1, Nat.lt_succ_self _, _, _, ⟨_, _, _, _, _, _, _, _, v17, _, v18, _, v19, _, v20, _, rfl, rfl, hm, ho16, ho17, ho18, ho19⟩, ⟨rfl, rfl, rfl, rfl, rfl, rfl, rfl, trivial⟩, ⟨rfl, rfl⟩, _, (s_take (s_take (s_take (s_take (s_take (s_take (s_take (s_take (s_take s_nil)))))))))⟩
      · have hm := cd_f h3 hm
        refine c_exit ?_
        obtain ⟨rfl, rfl, rfl, rfl, rfl, rfl, rfl, rfl⟩ := pr8 hm
        exact ⟨_, _, ⟨v9, _, v10, _, v11, _, v12, _, rfl, rfl, ho8, ho9, ho10, ho11⟩, ⟨rfl, rfl, rfl, rfl, rfl, rfl, rfl, trivial⟩, ⟨rfl, rfl⟩, _, (s_take (s_take (s_take (s_take (s_take (s_take (s_take (s_take (s_take s_nil)))))))))⟩
  · rintro sh G ⟨v13, g10, v14, g11, v15, g12, v16, g13, rfl, rfl, ho12, ho13, ho14, ho15⟩
    refine c_seq ?_
    refine c_region ?_
    refine o_T (y_move rfl) rfl ?_
    refine o_T (y_move rfl) rfl ?_
    refine o_L (y_assign rfl) rfl rfl ?_
    refine o_L (y_assign rfl) rfl rfl ?_
    refine o_nil0 rfl ?_
    refine c_ret ?_
    obtain ⟨rfl, rfl, rfl⟩ := pr3 hm
    refine fun aX wX heX hsX => ret2 Tryz.results151 heX rfl rfl (s_get (ks (ks (ks (ks (ks (ks (ks k0))))))) (s_get (ks k0) (s_get (ks k0) (s_get (ks k0) (s_get (ks k0) (s_take (s_skip (s_skip (s_take s_nil))))))))) ?_
    exact ⟨v13, _, v14, _, v15, _, v16, _, rfl, rfl, ho12, ho13, ho14, ho15⟩
end Go.Proofs.Qxb6500350aGreat
