/- MADE BY PROGRAM (tools350/mir.py): mirror and walk. -/
import Derived.Test.Qxb6500350aGreatF2
import Derived.Test.Qxb6500350aGreatT102
import Derived.Test.Qxb6500350aGreatT103
import Derived.Test.Qxb6500350aGreatT104
import Derived.Test.Qxb6500350aGreatSp
set_option linter.unusedVariables false
set_option linter.unusedSimpArgs false
set_option maxRecDepth 20000
set_option maxHeartbeats 4000000
namespace Go.Proofs.Qxb6500350aGreat
open Go.Eng

/- towerlaw.SameDiff -/
def m41 (n : Nat) (r : RepoR) (e : Engine) (x : Index) (m : RepoM) (path : Str) (once : Bool) : Option (Bool × Engine) :=
ob3 (m102 n r e x path) fun l1 c1 z1 =>
ob2 (m103 n m path) fun l2 c2 =>
ob1 (m104 n l1 l2) fun c3 =>
cond once (
Option.bind (m105 n l1) fun _ =>
some ((c3 && (decide (c1 = c2))), z1)) (
ob3 (m102 n r z1 x path) fun l3 c4 z2 =>
ob3 (m102 n r z2 x path) fun l4 c5 z3 =>
Option.bind (m105 n l1) fun _ =>
ob1 (m104 n l3 l2) fun c6 =>
Option.bind (m105 n l3) fun _ =>
ob1 (m104 n l4 l2) fun c7 =>
Option.bind (m105 n l4) fun _ =>
some ((((((c3 && c6) && c7) && (decide (c1 = c2))) && (decide (c4 = c2))) && (decide (c5 = c2))), z3))
theorem t41 {n : Nat} {C : List Chunk} {rc1 : Bool} {rz1 : Engine} {b1 : Nat} {r : RepoR} {q1 : Option Addr} {b2 : Nat} {x : Index} {b3 : Nat} {e : Engine} {v1 : Value} {g1 : List Chunk} {v2 : Value} {g2 : List Chunk} {v3 : Value} {g3 : List Chunk} {b4 : Nat} {m : RepoM} {v4 : Value} {g4 : List Chunk} {v5 : Value} {g5 : List Chunk} {v6 : Value} {g6 : List Chunk} {v7 : Value} {g7 : List Chunk} {path : Str} {once : Bool} (ho1 : Own rStr v1 e.line_ g1) (ho2 : Own rInt v2 e.sum g2) (ho3 : Own rInt v3 e.nxt g3) (ho4 : Own rNode v4 m.nodes g4) (ho5 : Own rRef_ v5 m.refs g5) (ho6 : Own rFile v6 m.index g6) (ho7 : Own rFile v7 m.work g7)  (hm : m41 n r e x m path once = some (rc1, rz1)) : Trip Tryz.prog 41 #[.pointer (some ⟨b1, 0, none⟩), .pointer (some ⟨b4, 0, none⟩), .string ⟨(path : Str).toArray⟩, .bool once] ([[(b1, .cells (RepoR.enc ((.pointer q1)) (.pointer (some ⟨b2, 0, none⟩)) (.pointer (some ⟨b3, 0, none⟩)) r).toArray 130 (0, 0))], [(b3, .cells (Engine.enc (v1) (v2) (v3) e).toArray 187 (0, 0))], g1, g2, g3, [(b2, .cells (Index.enc x).toArray 184 (0, 0))], [(b4, .cells (RepoM.enc (v4) (v5) (v6) (v7) m).toArray 59 (0, 0))], g4, g5, g6, g7] ++ [C]) (fun u S' => ∃ (ev1 : Value), ∃ (eg1 : List Chunk), ∃ (ev2 : Value), ∃ (eg2 : List Chunk), ∃ (ev3 : Value), ∃ (eg3 : List Chunk), .bool rc1 = u ∧ S' = [[(b1, .cells (RepoR.enc ((.pointer q1)) (.pointer (some ⟨b2, 0, none⟩)) (.pointer (some ⟨b3, 0, none⟩)) r).toArray 130 (0, 0))], [(b3, .cells (Engine.enc (ev1) (ev2) (ev3) rz1).toArray 187 (0, 0))], eg1, eg2, eg3, [(b2, .cells (Index.enc x).toArray 184 (0, 0))], [(b4, .cells (RepoM.enc (v4) (v5) (v6) (v7) m).toArray 59 (0, 0))], g4, g5, g6, g7] ++ [C] ∧ Own rStr ev1 rz1.line_ eg1 ∧ Own rInt ev2 rz1.sum eg2 ∧ Own rInt ev3 rz1.nxt eg3) := by
  refine fn_entry (args := [.pointer (some ⟨b1, 0, none⟩), .pointer (some ⟨b4, 0, none⟩), .string ⟨(path : Str).toArray⟩, .bool once]) Tryz.func41 rfl Tryz.ntmps41 rfl (fun w0 => ?_)
  refine c_seq ?_
  refine c_region ?_
  refine o_L (y_assign rfl) rfl rfl ?_
  refine o_nil0 rfl ?_
  refine c_seq ?_
  refine c_region ?_
  refine o_T (y_move rfl) rfl ?_
  refine o_T (y_move rfl) rfl ?_
  obtain ⟨l1, c1, z1, hx1, hm⟩ := bd3 hm
  refine o_callC en_102 rfl (s_take (s_take (s_take (s_take (s_take (s_take s_nil)))))) (t102 ho1 ho2 ho3 hx1) rfl (fun u1 S1 hR1 => ?_)
  obtain ⟨v8, g8, v9, g9, v10, g10, v11, g11, rfl, rfl, ho8, ho9, ho10, ho11⟩ := hR1
  refine o_rest ?_
  refine o_T (y_move rfl) rfl ?_
  refine o_T (y_extract rfl rfl) rfl ?_
  refine o_T (y_extract rfl rfl) rfl ?_
  refine o_L (y_assign rfl) rfl rfl ?_
  refine o_L (y_assign rfl) rfl rfl ?_
  refine o_nil0 rfl ?_
  refine c_seq ?_
  refine c_region ?_
  refine o_T (y_move rfl) rfl ?_
  refine o_T (y_move rfl) rfl ?_
  obtain ⟨l2, c2, hx2, hm⟩ := bd2 hm
  refine o_callC en_103 rfl (s_skip (s_skip (s_skip (s_skip (s_skip (s_skip (s_skip (s_take (s_take (s_take (s_take (s_take s_nil)))))))))))) (t103 ho4 ho5 ho6 ho7 hx2) rfl (fun u2 S2 hR2 => ?_)
  obtain ⟨v12, g12, rfl, rfl, ho12⟩ := hR2
  refine o_rest ?_
  refine o_T (y_move rfl) rfl ?_
  refine o_T (y_extract rfl rfl) rfl ?_
  refine o_T (y_extract rfl rfl) rfl ?_
  refine o_L (y_assign rfl) rfl rfl ?_
  refine o_L (y_assign rfl) rfl rfl ?_
  refine o_nil0 rfl ?_
  refine c_seq ?_
  refine c_region ?_
  refine o_T (y_move rfl) rfl ?_
  refine o_T (y_move rfl) rfl ?_
  obtain ⟨c3, hx3, hm⟩ := bd1 hm
  refine o_callC en_104 rfl s_nil (t104 (ho8.rd.mono (fun _ hz => (ms (ms (ms (ms (ms (ms (ms (ms (ms (ms (ms (ms (mg hz))))))))))))))) (ho12.rd.mono (fun _ hz => (ms (ms (ms (ms (ms (mg hz)))))))) hx3) rfl (fun u3 S3 hR3 => ?_)
  obtain ⟨rfl, rfl⟩ := hR3
  refine o_rest ?_
  refine o_L (y_assign rfl) rfl rfl ?_
  refine o_nil0 rfl ?_
  refine c_seq ?_
  refine c_seq ?_
  refine c_region ?_
  refine o_T (y_move rfl) rfl ?_
  refine o_nil1 35 rfl rfl ?_
  refine c_cond rfl (fun h1 => ?_) (fun h1 => ?_)
  · have hm := cd_t h1 hm
    refine c_seq ?_
    refine c_region ?_
    refine o_T (y_move rfl) rfl ?_
    obtain ⟨_, hx4, hm⟩ := bd hm
    refine o_callC en_105 rfl (s_skip (s_skip (s_skip (s_skip (s_skip (s_skip (s_skip (s_skip (s_skip (s_skip (s_skip (s_skip (s_take s_nil))))))))))))) (t105 ho8 hx4) rfl (fun u4 S4 hR4 => ?_)
    obtain ⟨rfl, rfl⟩ := hR4
    refine o_rest ?_
    refine o_nil0 rfl ?_
    refine c_seq ?_
    refine c_joinP (n := 0) (fun sh G => sh = [(8, .bool (c3 && (decide (c1 = c2))))] ∧ G = []) Sel.all' .z (fun _ _ h => h) ?_ ?_
    · skip
      refine c_region ?_
      refine o_T (y_move rfl) rfl ?_
      refine o_T (y_move rfl) rfl ?_
      refine o_split 39 rfl (fun h2 => ?_) (fun h2 => ?_)
      · skip
        refine o_take rfl rfl rfl ?_
        refine o_T (y_move rfl) rfl ?_
        refine o_take rfl rfl rfl ?_
        refine o_T (y_move rfl) rfl ?_
        refine o_take rfl rfl rfl ?_
        refine o_T (y_eql rfl rfl) rfl ?_
        refine o_T (y_pickT rfl rfl) rfl ?_
        refine o_L (y_assign rfl) rfl rfl ?_
        refine o_nil0 rfl ?_
        refine ⟨_, _, ⟨rfl, rfl⟩, ⟨by first | rfl | exact gtb rfl (by simp only [h2, Bool.true_and, Bool.false_and, Bool.true_or, Bool.false_or, Bool.and_true, Bool.and_false, Bool.or_true, Bool.or_false, Bool.not_true, Bool.not_false]), trivial⟩, ⟨rfl, rfl⟩, _, (s_take (s_take (s_take (s_take (s_take (s_take (s_take (s_take (s_take (s_take (s_take (s_take (s_take s_nil)))))))))))))⟩
      · skip
        refine o_pass rfl rfl rfl rfl rfl ?_
        refine o_pass rfl rfl rfl rfl rfl ?_
        refine o_pass rfl rfl rfl rfl rfl ?_
        refine o_T (y_pickF rfl rfl) rfl ?_
        refine o_L (y_assign rfl) rfl rfl ?_
        refine o_nil0 rfl ?_
        refine ⟨_, _, ⟨rfl, rfl⟩, ⟨by first | rfl | exact gtb rfl (by simp only [h2, Bool.true_and, Bool.false_and, Bool.true_or, Bool.false_or, Bool.and_true, Bool.and_false, Bool.or_true, Bool.or_false, Bool.not_true, Bool.not_false]), trivial⟩, ⟨rfl, rfl⟩, _, (s_take (s_take (s_take (s_take (s_take (s_take (s_take (s_take (s_take (s_take (s_take (s_take (s_take s_nil)))))))))))))⟩
    · rintro sh G ⟨rfl, rfl⟩
      refine c_ret ?_
      obtain ⟨rfl, rfl⟩ := pr2 hm
      refine fun aX wX heX hsX => ret1 Tryz.results41 heX rfl (s_get (ks (ks (ks (ks (ks (ks k0)))))) (s_get (ks (ks (ks (ks (ks (ks k0)))))) (s_get (ks (ks (ks (ks (ks (ks k0)))))) (s_get (ks (ks (ks (ks (ks (ks k0)))))) (s_get (ks (ks (ks (ks (ks (ks k0)))))) (s_get (ks (ks (ks (ks (ks (ks k0)))))) (s_take (s_take (s_take (s_take (s_take (s_skip (s_take s_nil))))))))))))) ?_
      exact ⟨v9, _, v10, _, v11, _, rfl, rfl, ho9, ho10, ho11⟩
  · have hm := cd_f h1 hm
    refine c_skip ?_
    refine c_seq ?_
    refine c_region ?_
    refine o_T (y_move rfl) rfl ?_
    refine o_T (y_move rfl) rfl ?_
    obtain ⟨l3, c4, z2, hx5, hm⟩ := bd3 hm
    refine o_callC en_102 rfl (s_skip (s_skip (s_skip (s_skip (s_skip (s_skip (s_take (s_take (s_take (s_take (s_take (s_take s_nil)))))))))))) (t102 ho9 ho10 ho11 hx5) rfl (fun u5 S5 hR5 => ?_)
    obtain ⟨v13, g13, v14, g14, v15, g15, v16, g16, rfl, rfl, ho13, ho14, ho15, ho16⟩ := hR5
    refine o_rest ?_
    refine o_T (y_move rfl) rfl ?_
    refine o_T (y_extract rfl rfl) rfl ?_
    refine o_T (y_extract rfl rfl) rfl ?_
    refine o_L (y_assign rfl) rfl rfl ?_
    refine o_L (y_assign rfl) rfl rfl ?_
    refine o_nil0 rfl ?_
    refine c_seq ?_
    refine c_region ?_
    refine o_T (y_move rfl) rfl ?_
    refine o_T (y_move rfl) rfl ?_
    obtain ⟨l4, c5, z3, hx6, hm⟩ := bd3 hm
    refine o_callC en_102 rfl (s_take (s_take (s_take (s_take (s_take (s_take s_nil)))))) (t102 ho14 ho15 ho16 hx6) rfl (fun u6 S6 hR6 => ?_)
    obtain ⟨v17, g17, v18, g18, v19, g19, v20, g20, rfl, rfl, ho17, ho18, ho19, ho20⟩ := hR6
    refine o_rest ?_
    refine o_T (y_move rfl) rfl ?_
    refine o_T (y_extract rfl rfl) rfl ?_
    refine o_T (y_extract rfl rfl) rfl ?_
    refine o_L (y_assign rfl) rfl rfl ?_
    refine o_L (y_assign rfl) rfl rfl ?_
    refine o_nil0 rfl ?_
    refine c_seq ?_
    refine c_region ?_
    refine o_T (y_move rfl) rfl ?_
    obtain ⟨_, hx7, hm⟩ := bd hm
    refine o_callC en_105 rfl (s_skip (s_skip (s_skip (s_skip (s_skip (s_skip (s_skip (s_skip (s_skip (s_skip (s_skip (s_skip (s_skip (s_skip (s_take s_nil))))))))))))))) (t105 ho8 hx7) rfl (fun u7 S7 hR7 => ?_)
    obtain ⟨rfl, rfl⟩ := hR7
    refine o_rest ?_
    refine o_nil0 rfl ?_
    refine c_seq ?_
    refine c_region ?_
    refine o_T (y_move rfl) rfl ?_
    refine o_T (y_move rfl) rfl ?_
    obtain ⟨c6, hx8, hm⟩ := bd1 hm
    refine o_callC en_104 rfl s_nil (t104 (ho13.rd.mono (fun _ hz => (ms (ms (ms (ms (ms (ms (ms (mg hz)))))))))) (ho12.rd.mono (fun _ hz => (ms (ms (ms (ms (ms (ms (ms (ms (ms (ms (ms (ms (ms (mg hz)))))))))))))))) hx8) rfl (fun u8 S8 hR8 => ?_)
    obtain ⟨rfl, rfl⟩ := hR8
    refine o_rest ?_
    refine o_L (y_assign rfl) rfl rfl ?_
    refine o_nil0 rfl ?_
    refine c_seq ?_
    refine c_region ?_
    refine o_T (y_move rfl) rfl ?_
    obtain ⟨_, hx9, hm⟩ := bd hm
    refine o_callC en_105 rfl (s_skip (s_skip (s_skip (s_skip (s_skip (s_skip (s_skip (s_take s_nil)))))))) (t105 ho13 hx9) rfl (fun u9 S9 hR9 => ?_)
    obtain ⟨rfl, rfl⟩ := hR9
    refine o_rest ?_
    refine o_nil0 rfl ?_
    refine c_seq ?_
    refine c_region ?_
    refine o_T (y_move rfl) rfl ?_
    refine o_T (y_move rfl) rfl ?_
    obtain ⟨c7, hx10, hm⟩ := bd1 hm
    refine o_callC en_104 rfl s_nil (t104 (ho17.rd.mono (fun _ hz => (ms (ms (ms (ms (ms (ms (mg hz))))))))) (ho12.rd.mono (fun _ hz => (ms (ms (ms (ms (ms (ms (ms (ms (ms (ms (ms (ms (mg hz))))))))))))))) hx10) rfl (fun u10 S10 hR10 => ?_)
    obtain ⟨rfl, rfl⟩ := hR10
    refine o_rest ?_
    refine o_L (y_assign rfl) rfl rfl ?_
    refine o_nil0 rfl ?_
    refine c_seq ?_
    refine c_region ?_
    refine o_T (y_move rfl) rfl ?_
    obtain ⟨_, hx11, hm⟩ := bd hm
    refine o_callC en_105 rfl (s_skip (s_skip (s_skip (s_skip (s_skip (s_skip (s_take s_nil))))))) (t105 ho17 hx11) rfl (fun u11 S11 hR11 => ?_)
    obtain ⟨rfl, rfl⟩ := hR11
    refine o_rest ?_
    refine o_nil0 rfl ?_
    refine c_seq ?_
    refine c_joinP (n := 0) (fun sh G => sh = [(8, .bool (((((c3 && c6) && c7) && (decide (c1 = c2))) && (decide (c4 = c2))) && (decide (c5 = c2))))] ∧ G = []) Sel.all' .z (fun _ _ h => h) ?_ ?_
    · skip
      refine c_region ?_
      refine o_T (y_move rfl) rfl ?_
      refine o_T (y_move rfl) rfl ?_
      refine o_split 69 rfl (fun h3 => ?_) (fun h3 => ?_)
      · skip
        refine o_take rfl rfl rfl ?_
        refine o_T (y_move rfl) rfl ?_
        refine o_T (y_pickT rfl rfl) rfl ?_
        refine o_T (y_move rfl) rfl ?_
        refine o_split 72 rfl (fun h4 => ?_) (fun h4 => ?_)
        · skip
          refine o_take rfl rfl rfl ?_
          refine o_T (y_move rfl) rfl ?_
          refine o_T (y_pickT rfl rfl) rfl ?_
          refine o_T (y_move rfl) rfl ?_
          refine o_split 75 rfl (fun h5 => ?_) (fun h5 => ?_)
          · skip
            refine o_take rfl rfl rfl ?_
            refine o_T (y_move rfl) rfl ?_
            refine o_take rfl rfl rfl ?_
            refine o_T (y_move rfl) rfl ?_
            refine o_take rfl rfl rfl ?_
            refine o_T (y_eql rfl rfl) rfl ?_
            refine o_T (y_pickT rfl rfl) rfl ?_
            refine o_T (y_move rfl) rfl ?_
            refine o_split 80 rfl (fun h6 => ?_) (fun h6 => ?_)
            · skip
              refine o_take rfl rfl rfl ?_
              refine o_T (y_move rfl) rfl ?_
              refine o_take rfl rfl rfl ?_
              refine o_T (y_move rfl) rfl ?_
              refine o_take rfl rfl rfl ?_
              refine o_T (y_eql rfl rfl) rfl ?_
              refine o_T (y_pickT rfl rfl) rfl ?_
              refine o_T (y_move rfl) rfl ?_
              refine o_split 85 rfl (fun h7 => ?_) (fun h7 => ?_)
              · skip
                refine o_take rfl rfl rfl ?_
                refine o_T (y_move rfl) rfl ?_
                refine o_take rfl rfl rfl ?_
                refine o_T (y_move rfl) rfl ?_
                refine o_take rfl rfl rfl ?_
                refine o_T (y_eql rfl rfl) rfl ?_
                refine o_T (y_pickT rfl rfl) rfl ?_
                refine o_L (y_assign rfl) rfl rfl ?_
                refine o_nil0 rfl ?_
                refine ⟨_, _, ⟨rfl, rfl⟩, ⟨by first | rfl | exact gtb rfl (by simp only [h3, h4, h5, h6, h7, Bool.true_and, Bool.false_and, Bool.true_or, Bool.false_or, Bool.and_true, Bool.and_false, Bool.or_true, Bool.or_false, Bool.not_true, Bool.not_false]), trivial⟩, ⟨rfl, rfl⟩, _, (s_take (s_take (s_take (s_take (s_take (s_take (s_take (s_take (s_take (s_take (s_take (s_take (s_take s_nil)))))))))))))⟩
              · skip
                refine o_pass rfl rfl rfl rfl rfl ?_
                refine o_pass rfl rfl rfl rfl rfl ?_
                refine o_pass rfl rfl rfl rfl rfl ?_
                refine o_T (y_pickF rfl rfl) rfl ?_
                refine o_L (y_assign rfl) rfl rfl ?_
                refine o_nil0 rfl ?_
                refine ⟨_, _, ⟨rfl, rfl⟩, ⟨by first | rfl | exact gtb rfl (by simp only [h3, h4, h5, h6, h7, Bool.true_and, Bool.false_and, Bool.true_or, Bool.false_or, Bool.and_true, Bool.and_false, Bool.or_true, Bool.or_false, Bool.not_true, Bool.not_false]), trivial⟩, ⟨rfl, rfl⟩, _, (s_take (s_take (s_take (s_take (s_take (s_take (s_take (s_take (s_take (s_take (s_take (s_take (s_take s_nil)))))))))))))⟩
            · skip
              refine o_pass rfl rfl rfl rfl rfl ?_
              refine o_pass rfl rfl rfl rfl rfl ?_
              refine o_pass rfl rfl rfl rfl rfl ?_
              refine o_T (y_pickF rfl rfl) rfl ?_
              refine o_T (y_move rfl) rfl ?_
              refine o_pass rfl rfl rfl rfl rfl ?_
              refine o_pass rfl rfl rfl rfl rfl ?_
              refine o_pass rfl rfl rfl rfl rfl ?_
              refine o_T (y_pickF rfl rfl) rfl ?_
              refine o_L (y_assign rfl) rfl rfl ?_
              refine o_nil0 rfl ?_
              refine ⟨_, _, ⟨rfl, rfl⟩, ⟨by first | rfl | exact gtb rfl (by simp only [h3, h4, h5, h6, Bool.true_and, Bool.false_and, Bool.true_or, Bool.false_or, Bool.and_true, Bool.and_false, Bool.or_true, Bool.or_false, Bool.not_true, Bool.not_false]), trivial⟩, ⟨rfl, rfl⟩, _, (s_take (s_take (s_take (s_take (s_take (s_take (s_take (s_take (s_take (s_take (s_take (s_take (s_take s_nil)))))))))))))⟩
          · skip
            refine o_pass rfl rfl rfl rfl rfl ?_
            refine o_pass rfl rfl rfl rfl rfl ?_
            refine o_pass rfl rfl rfl rfl rfl ?_
            refine o_T (y_pickF rfl rfl) rfl ?_
            refine o_T (y_move rfl) rfl ?_
            refine o_pass rfl rfl rfl rfl rfl ?_
            refine o_pass rfl rfl rfl rfl rfl ?_
            refine o_pass rfl rfl rfl rfl rfl ?_
            refine o_T (y_pickF rfl rfl) rfl ?_
            refine o_T (y_move rfl) rfl ?_
            refine o_pass rfl rfl rfl rfl rfl ?_
            refine o_pass rfl rfl rfl rfl rfl ?_
            refine o_pass rfl rfl rfl rfl rfl ?_
            refine o_T (y_pickF rfl rfl) rfl ?_
            refine o_L (y_assign rfl) rfl rfl ?_
            refine o_nil0 rfl ?_
            refine ⟨_, _, ⟨rfl, rfl⟩, ⟨by first | rfl | exact gtb rfl (by simp only [h3, h4, h5, Bool.true_and, Bool.false_and, Bool.true_or, Bool.false_or, Bool.and_true, Bool.and_false, Bool.or_true, Bool.or_false, Bool.not_true, Bool.not_false]), trivial⟩, ⟨rfl, rfl⟩, _, (s_take (s_take (s_take (s_take (s_take (s_take (s_take (s_take (s_take (s_take (s_take (s_take (s_take s_nil)))))))))))))⟩
        · skip
          refine o_pass rfl rfl rfl rfl rfl ?_
          refine o_T (y_pickF rfl rfl) rfl ?_
          refine o_T (y_move rfl) rfl ?_
          refine o_pass rfl rfl rfl rfl rfl ?_
          refine o_pass rfl rfl rfl rfl rfl ?_
          refine o_pass rfl rfl rfl rfl rfl ?_
          refine o_T (y_pickF rfl rfl) rfl ?_
          refine o_T (y_move rfl) rfl ?_
          refine o_pass rfl rfl rfl rfl rfl ?_
          refine o_pass rfl rfl rfl rfl rfl ?_
          refine o_pass rfl rfl rfl rfl rfl ?_
          refine o_T (y_pickF rfl rfl) rfl ?_
          refine o_T (y_move rfl) rfl ?_
          refine o_pass rfl rfl rfl rfl rfl ?_
          refine o_pass rfl rfl rfl rfl rfl ?_
          refine o_pass rfl rfl rfl rfl rfl ?_
          refine o_T (y_pickF rfl rfl) rfl ?_
          refine o_L (y_assign rfl) rfl rfl ?_
          refine o_nil0 rfl ?_
          refine ⟨_, _, ⟨rfl, rfl⟩, ⟨by first | rfl | exact gtb rfl (by simp only [h3, h4, Bool.true_and, Bool.false_and, Bool.true_or, Bool.false_or, Bool.and_true, Bool.and_false, Bool.or_true, Bool.or_false, Bool.not_true, Bool.not_false]), trivial⟩, ⟨rfl, rfl⟩, _, (s_take (s_take (s_take (s_take (s_take (s_take (s_take (s_take (s_take (s_take (s_take (s_take (s_take s_nil)))))))))))))⟩
      · skip
        refine o_pass rfl rfl rfl rfl rfl ?_
        refine o_T (y_pickF rfl rfl) rfl ?_
        refine o_T (y_move rfl) rfl ?_
        refine o_pass rfl rfl rfl rfl rfl ?_
        refine o_T (y_pickF rfl rfl) rfl ?_
        refine o_T (y_move rfl) rfl ?_
        refine o_pass rfl rfl rfl rfl rfl ?_
        refine o_pass rfl rfl rfl rfl rfl ?_
        refine o_pass rfl rfl rfl rfl rfl ?_
        refine o_T (y_pickF rfl rfl) rfl ?_
        refine o_T (y_move rfl) rfl ?_
        refine o_pass rfl rfl rfl rfl rfl ?_
        refine o_pass rfl rfl rfl rfl rfl ?_
        refine o_pass rfl rfl rfl rfl rfl ?_
        refine o_T (y_pickF rfl rfl) rfl ?_
        refine o_T (y_move rfl) rfl ?_
        refine o_pass rfl rfl rfl rfl rfl ?_
        refine o_pass rfl rfl rfl rfl rfl ?_
        refine o_pass rfl rfl rfl rfl rfl ?_
        refine o_T (y_pickF rfl rfl) rfl ?_
        refine o_L (y_assign rfl) rfl rfl ?_
        refine o_nil0 rfl ?_
        refine ⟨_, _, ⟨rfl, rfl⟩, ⟨by first | rfl | exact gtb rfl (by simp only [h3, Bool.true_and, Bool.false_and, Bool.true_or, Bool.false_or, Bool.and_true, Bool.and_false, Bool.or_true, Bool.or_false, Bool.not_true, Bool.not_false]), trivial⟩, ⟨rfl, rfl⟩, _, (s_take (s_take (s_take (s_take (s_take (s_take (s_take (s_take (s_take (s_take (s_take (s_take (s_take s_nil)))))))))))))⟩
    · rintro sh G ⟨rfl, rfl⟩
      refine c_ret ?_
      obtain ⟨rfl, rfl⟩ := pr2 hm
      refine fun aX wX heX hsX => ret1 Tryz.results41 heX rfl (s_take (s_take (s_take (s_take (s_take (s_take (s_take (s_take (s_take (s_take (s_take (s_skip (s_take s_nil))))))))))))) ?_
      exact ⟨v18, _, v19, _, v20, _, rfl, rfl, ho18, ho19, ho20⟩
end Go.Proofs.Qxb6500350aGreat
