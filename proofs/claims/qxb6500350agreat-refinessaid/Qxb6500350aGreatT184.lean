/- MADE BY PROGRAM (tools350/mir.py): mirror and walk. -/
import Derived.Test.Qxb6500350aGreatF2
import Derived.Test.Qxb6500350aGreatT185
import Derived.Test.Qxb6500350aGreatT253
import Derived.Test.Qxb6500350aGreatT254
import Derived.Test.Qxb6500350aGreatT255
import Derived.Test.Qxb6500350aGreatT256
set_option linter.unusedVariables false
set_option linter.unusedSimpArgs false
set_option maxRecDepth 20000
set_option maxHeartbeats 4000000
namespace Go.Proofs.Qxb6500350aGreat
open Go.Eng

/- (*diff.Engine).Diff -/
def m184 (n : Nat) (e : Engine) (a : Str) (b_ : Str) : Option ((List Hunk) × Int × Engine) :=
cond ((decide ((1024 : Int) < (a.length : Int))) || (decide ((1024 : Int) < (b_.length : Int)))) (
some (([] : List Hunk), 4, e)) (
ob1 (m185 n a) fun l1 =>
ob1 (m185 n b_) fun l2 =>
ob1 (m253 n e) fun z1 =>
ob2 (m254 n z1 l1) fun l3 z2 =>
ob2 (m254 n z2 l2) fun l4 z3 =>
ob1 (m255 n l3 l4) fun l5 =>
ob1 (m256 n l1 l2 l5) fun l6 =>
some (l6, 0, z3))
theorem t184 {n : Nat} {C : List Chunk} {rl1 : List Hunk} {rc1 : Int} {rz1 : Engine} {b1 : Nat} {e : Engine} {v1 : Value} {g1 : List Chunk} {v2 : Value} {g2 : List Chunk} {v3 : Value} {g3 : List Chunk} {a : Str} {b_ : Str} (ho1 : Own rStr v1 e.line_ g1) (ho2 : Own rInt v2 e.sum g2) (ho3 : Own rInt v3 e.nxt g3)  (hm : m184 n e a b_ = some (rl1, rc1, rz1)) : Trip Tryz.prog 184 #[.pointer (some ⟨b1, 0, none⟩), .string ⟨(a : Str).toArray⟩, .string ⟨(b_ : Str).toArray⟩] ([[(b1, .cells (Engine.enc (v1) (v2) (v3) e).toArray 187 (0, 0))], g1, g2, g3] ++ [C]) (fun u S' => ∃ (ev1 : Value), ∃ (eg1 : List Chunk), ∃ (ev2 : Value), ∃ (eg2 : List Chunk), ∃ (ev3 : Value), ∃ (eg3 : List Chunk), ∃ (ev4 : Value), ∃ (eg4 : List Chunk), .tuple #[ev1, .int .i64 rc1] = u ∧ S' = [[(b1, .cells (Engine.enc (ev2) (ev3) (ev4) rz1).toArray 187 (0, 0))], eg2, eg3, eg4, eg1] ++ [C] ∧ Own rHunk ev1 rl1 eg1 ∧ Own rStr ev2 rz1.line_ eg2 ∧ Own rInt ev3 rz1.sum eg3 ∧ Own rInt ev4 rz1.nxt eg4) := by
  refine fn_entry (args := [.pointer (some ⟨b1, 0, none⟩), .string ⟨(a : Str).toArray⟩, .string ⟨(b_ : Str).toArray⟩]) Tryz.func184 rfl Tryz.ntmps184 rfl (fun w0 => ?_)
  refine c_seq ?_
  refine c_region ?_
  have ho4 : Own rHunk (.slice none 0 0) [] [] := Own.nil
  refine o_emp ?_
  refine o_L (y_assign rfl) rfl rfl ?_
  refine o_L (y_assign rfl) rfl rfl ?_
  refine o_nil0 rfl ?_
  refine c_seq ?_
  refine c_seq ?_
  refine c_joinP (n := 0) (fun sh G => sh = [(20, .bool ((decide ((1024 : Int) < (a.length : Int))) || (decide ((1024 : Int) < (b_.length : Int)))))] ∧ G = []) Sel.all' .z (fun _ _ h => h) ?_ ?_
  · skip
    refine c_region ?_
    refine o_T (y_move rfl) rfl ?_
    refine o_T (y_slen Tryz.underlying9 rfl) rfl ?_
    refine o_T (y_gtr rfl rfl) rfl ?_
    refine o_T (y_move rfl) rfl ?_
    refine o_split 16 rfl (fun h1 => ?_) (fun h1 => ?_)
    · skip
      refine o_pass rfl rfl rfl rfl rfl ?_
      refine o_pass rfl rfl rfl rfl rfl ?_
      refine o_pass rfl rfl rfl rfl rfl ?_
      refine o_T (y_pickT rfl rfl) rfl ?_
      refine o_nil1 20 rfl rfl ?_
      refine ⟨_, _, ⟨rfl, rfl⟩, ⟨by first | rfl | exact gtb rfl (by simp only [h1, Bool.true_and, Bool.false_and, Bool.true_or, Bool.false_or, Bool.and_true, Bool.and_false, Bool.or_true, Bool.or_false, Bool.not_true, Bool.not_false]), trivial⟩, ⟨rfl, rfl⟩, _, (s_take (s_take (s_take (s_take (s_take (s_take s_nil))))))⟩
    · skip
      refine o_take rfl rfl rfl ?_
      refine o_T (y_move rfl) rfl ?_
      refine o_take rfl rfl rfl ?_
      refine o_T (y_slen Tryz.underlying9 rfl) rfl ?_
      refine o_take rfl rfl rfl ?_
      refine o_T (y_gtr rfl rfl) rfl ?_
      refine o_T (y_pickF rfl rfl) rfl ?_
      refine o_nil1 20 rfl rfl ?_
      refine ⟨_, _, ⟨rfl, rfl⟩, ⟨by first | rfl | exact gtb rfl (by simp only [h1, Bool.true_and, Bool.false_and, Bool.true_or, Bool.false_or, Bool.and_true, Bool.and_false, Bool.or_true, Bool.or_false, Bool.not_true, Bool.not_false]), trivial⟩, ⟨rfl, rfl⟩, _, (s_take (s_take (s_take (s_take (s_take (s_take s_nil))))))⟩
  · rintro sh G ⟨rfl, rfl⟩
    refine c_cond rfl (fun h2 => ?_) (fun h2 => ?_)
    · have hm := cd_t h2 hm
      refine c_seq ?_
      refine c_region ?_
      have ho5 : Own rHunk (.slice none 0 0) [] [] := Own.nil
      refine o_emp ?_
      refine o_L (y_assign rfl) rfl rfl ?_
      refine o_L (y_assign rfl) rfl rfl ?_
      refine o_nil0 rfl ?_
      refine c_ret ?_
      obtain ⟨rfl, rfl, rfl⟩ := pr3 hm
      refine fun aX wX heX hsX => ret2 Tryz.results184 heX rfl rfl (s_get (ks (ks k0)) (s_get (ks (ks k0)) (s_get (ks (ks k0)) (s_get (ks (ks k0)) (s_take (s_skip (s_take s_nil))))))) ?_
      exact ⟨(.slice none 0 0), _, v1, _, v2, _, v3, _, rfl, rfl, ho5, ho1, ho2, ho3⟩
    · have hm := cd_f h2 hm
      refine c_skip ?_
      refine c_seq ?_
      refine c_region ?_
      refine o_T (y_move rfl) rfl ?_
      obtain ⟨l1, hx1, hm⟩ := bd1 hm
      refine o_callC en_185 rfl s_nil (t185 hx1) rfl (fun u1 S1 hR1 => ?_)
      obtain ⟨v4, g4, rfl, rfl, ho6⟩ := hR1
      refine o_rest ?_
      refine o_L (y_assign rfl) rfl rfl ?_
      refine o_nil0 rfl ?_
      refine c_seq ?_
      refine c_region ?_
      refine o_T (y_move rfl) rfl ?_
      obtain ⟨l2, hx2, hm⟩ := bd1 hm
      refine o_callC en_185 rfl s_nil (t185 hx2) rfl (fun u2 S2 hR2 => ?_)
      obtain ⟨v5, g5, rfl, rfl, ho7⟩ := hR2
      refine o_rest ?_
      refine o_L (y_assign rfl) rfl rfl ?_
      refine o_nil0 rfl ?_
      refine c_seq ?_
      refine c_region ?_
      refine o_T (y_move rfl) rfl ?_
      obtain ⟨z1, hx3, hm⟩ := bd1 hm
      refine o_callC en_253 rfl (s_skip (s_skip (s_skip (s_take (s_take (s_take (s_take s_nil))))))) (t253 ho1 ho2 ho3 hx3) rfl (fun u3 S3 hR3 => ?_)
      obtain ⟨v6, g6, v7, g7, v8, g8, rfl, rfl, ho8, ho9, ho10⟩ := hR3
      refine o_rest ?_
      refine o_nil0 rfl ?_
      refine c_seq ?_
      refine c_region ?_
      refine o_T (y_move rfl) rfl ?_
      refine o_T (y_move rfl) rfl ?_
      obtain ⟨l3, z2, hx4, hm⟩ := bd2 hm
      refine o_callC en_254 rfl (s_take (s_take (s_take (s_take s_nil)))) (t254 ho8 ho9 ho10 (ho6.rd.mono (fun _ hz => (ms (mg hz)))) hx4) rfl (fun u4 S4 hR4 => ?_)
      obtain ⟨v9, g9, v10, g10, v11, g11, v12, g12, rfl, rfl, ho11, ho12, ho13, ho14⟩ := hR4
      refine o_rest ?_
      refine o_L (y_assign rfl) rfl rfl ?_
      refine o_nil0 rfl ?_
      refine c_seq ?_
      refine c_region ?_
      refine o_T (y_move rfl) rfl ?_
      refine o_T (y_move rfl) rfl ?_
      obtain ⟨l4, z3, hx5, hm⟩ := bd2 hm
      refine o_callC en_254 rfl (s_take (s_take (s_take (s_take s_nil)))) (t254 ho12 ho13 ho14 (ho7.rd.mono (fun _ hz => (ms (mg hz)))) hx5) rfl (fun u5 S5 hR5 => ?_)
      obtain ⟨v13, g13, v14, g14, v15, g15, v16, g16, rfl, rfl, ho15, ho16, ho17, ho18⟩ := hR5
      refine o_rest ?_
      refine o_L (y_assign rfl) rfl rfl ?_
      refine o_nil0 rfl ?_
      refine c_seq ?_
      refine c_region ?_
      refine o_T (y_move rfl) rfl ?_
      refine o_T (y_move rfl) rfl ?_
      obtain ⟨l5, hx6, hm⟩ := bd1 hm
      refine o_callC en_255 rfl s_nil (t255 (ho11.rd.mono (fun _ hz => (ms (ms (ms (ms (ms (mg hz)))))))) (ho15.rd.mono (fun _ hz => (ms (ms (ms (ms (mg hz))))))) hx6) rfl (fun u6 S6 hR6 => ?_)
      obtain ⟨v17, g17, rfl, rfl, ho19⟩ := hR6
      refine o_rest ?_
      refine o_L (y_assign rfl) rfl rfl ?_
      refine o_nil0 rfl ?_
      refine c_seq ?_
      refine c_region ?_
      refine o_T (y_move rfl) rfl ?_
      refine o_T (y_move rfl) rfl ?_
      refine o_T (y_move rfl) rfl ?_
      obtain ⟨l6, hx7, hm⟩ := bd1 hm
      refine o_callC en_256 rfl s_nil (t256 (ho6.rd.mono (fun _ hz => (ms (ms (ms (ms (ms (ms (ms (ms (mg hz))))))))))) (ho7.rd.mono (fun _ hz => (ms (ms (ms (ms (ms (ms (ms (mg hz)))))))))) (ho19.rd.mono (fun _ hz => (mg hz))) hx7) rfl (fun u7 S7 hR7 => ?_)
      obtain ⟨v18, g18, rfl, rfl, ho20⟩ := hR7
      refine o_rest ?_
      refine o_L (y_assign rfl) rfl rfl ?_
      refine o_L (y_assign rfl) rfl rfl ?_
      refine o_nil0 rfl ?_
      refine c_ret ?_
      obtain ⟨rfl, rfl, rfl⟩ := pr3 hm
      refine fun aX wX heX hsX => ret2 Tryz.results184 heX rfl rfl (s_get (ks (ks k0)) (s_get (ks (ks k0)) (s_get (ks (ks k0)) (s_get (ks (ks k0)) (s_take (s_skip (s_skip (s_skip (s_skip (s_skip (s_skip (s_take s_nil)))))))))))) ?_
      exact ⟨v18, _, v14, _, v15, _, v16, _, rfl, rfl, ho20, ho16, ho17, ho18⟩
end Go.Proofs.Qxb6500350aGreat
