/- MADE BY PROGRAM (tools350/mir.py): mirror and walk. -/
import Derived.Test.Qxb6500350aGreatF2
import Derived.Test.Qxb6500350aGreatT83
import Derived.Test.Qxb6500350aGreatT84
import Derived.Test.Qxb6500350aGreatT85
import Derived.Test.Qxb6500350aGreatSp
set_option linter.unusedVariables false
set_option linter.unusedSimpArgs false
set_option maxRecDepth 20000
set_option maxHeartbeats 4000000
namespace Go.Proofs.Qxb6500350aGreat
open Go.Eng

/- towerlaw.SameStatus -/
def m30 (n : Nat) (r : RepoR) (g : Graph) (t : Trees) (s : Store) (d : Dev) (x : Index) (m : RepoM) (once : Bool) : Option (Bool) :=
ob1 (m83 n r g t s d x) fun l1 =>
ob1 (m84 n m) fun l2 =>
ob1 (m85 n l1 l2) fun c1 =>
cond once (
Option.bind (m86 n l1) fun _ =>
some c1) (
ob1 (m83 n r g t s d x) fun l3 =>
ob1 (m83 n r g t s d x) fun l4 =>
Option.bind (m86 n l1) fun _ =>
ob1 (m85 n l3 l2) fun c2 =>
Option.bind (m86 n l3) fun _ =>
ob1 (m85 n l4 l2) fun c3 =>
Option.bind (m86 n l4) fun _ =>
some ((c1 && c2) && c3))
theorem t30 {n : Nat} {C : List Chunk} {rc1 : Bool} {b1 : Nat} {r : RepoR} {b2 : Nat} {g : Graph} {b3 : Nat} {t : Trees} {b4 : Nat} {s : Store} {b5 : Nat} {d : Dev} {v1 : Value} {g1 : List Chunk} {v2 : Value} {g2 : List Chunk} {v3 : Value} {g3 : List Chunk} {v4 : Value} {g4 : List Chunk} {b6 : Nat} {x : Index} {q1 : Option Addr} {b7 : Nat} {m : RepoM} {v5 : Value} {g5 : List Chunk} {v6 : Value} {g6 : List Chunk} {v7 : Value} {g7 : List Chunk} {v8 : Value} {g8 : List Chunk} {once : Bool} (ho1 : Own rByte v1 d.blk g1) (ho2 : Own rByte v2 d.base g2) (ho3 : Own rInt v3 d.at_ g3) (ho4 : Own rByte v4 d.data g4) (ho5 : Own rNode v5 m.nodes g5) (ho6 : Own rRef_ v6 m.refs g6) (ho7 : Own rFile v7 m.index g7) (ho8 : Own rFile v8 m.work g8)  (hm : m30 n r g t s d x m once = some rc1) : Trip Tryz.prog 30 #[.pointer (some ⟨b1, 0, none⟩), .pointer (some ⟨b7, 0, none⟩), .bool once] ([[(b1, .cells (RepoR.enc (.pointer (some ⟨b2, 0, none⟩)) (.pointer (some ⟨b6, 0, none⟩)) ((.pointer q1)) r).toArray 130 (0, 0))], [(b2, .cells (Graph.enc (.pointer (some ⟨b3, 0, none⟩)) g).toArray 179 (0, 0))], [(b3, .cells (Trees.enc (.pointer (some ⟨b4, 0, none⟩)) t).toArray 169 (0, 0))], [(b4, .cells (Store.enc (.pointer (some ⟨b5, 0, none⟩)) s).toArray 126 (0, 0))], [(b5, .cells (Dev.enc (v1) (v2) (v3) (v4) d).toArray 85 (0, 0))], g1, g2, g3, g4, [(b6, .cells (Index.enc x).toArray 184 (0, 0))], [(b7, .cells (RepoM.enc (v5) (v6) (v7) (v8) m).toArray 59 (0, 0))], g5, g6, g7, g8] ++ [C]) (fun u S' => .bool rc1 = u ∧ S' = [[(b1, .cells (RepoR.enc (.pointer (some ⟨b2, 0, none⟩)) (.pointer (some ⟨b6, 0, none⟩)) ((.pointer q1)) r).toArray 130 (0, 0))], [(b2, .cells (Graph.enc (.pointer (some ⟨b3, 0, none⟩)) g).toArray 179 (0, 0))], [(b3, .cells (Trees.enc (.pointer (some ⟨b4, 0, none⟩)) t).toArray 169 (0, 0))], [(b4, .cells (Store.enc (.pointer (some ⟨b5, 0, none⟩)) s).toArray 126 (0, 0))], [(b5, .cells (Dev.enc (v1) (v2) (v3) (v4) d).toArray 85 (0, 0))], g1, g2, g3, g4, [(b6, .cells (Index.enc x).toArray 184 (0, 0))], [(b7, .cells (RepoM.enc (v5) (v6) (v7) (v8) m).toArray 59 (0, 0))], g5, g6, g7, g8] ++ [C]) := by
  refine fn_entry (args := [.pointer (some ⟨b1, 0, none⟩), .pointer (some ⟨b7, 0, none⟩), .bool once]) Tryz.func30 rfl Tryz.ntmps30 rfl (fun w0 => ?_)
  refine c_seq ?_
  refine c_region ?_
  refine o_L (y_assign rfl) rfl rfl ?_
  refine o_nil0 rfl ?_
  refine c_seq ?_
  refine c_region ?_
  refine o_T (y_move rfl) rfl ?_
  obtain ⟨l1, hx1, hm⟩ := bd1 hm
  refine o_callC en_83 rfl (s_take (s_take (s_take (s_take (s_take (s_take (s_take (s_take (s_take (s_take s_nil)))))))))) (t83 ho1 ho2 ho3 ho4 hx1) rfl (fun u1 S1 hR1 => ?_)
  obtain ⟨v9, g9, rfl, rfl, ho9⟩ := hR1
  refine o_rest ?_
  refine o_L (y_assign rfl) rfl rfl ?_
  refine o_nil0 rfl ?_
  refine c_seq ?_
  refine c_region ?_
  refine o_T (y_move rfl) rfl ?_
  obtain ⟨l2, hx2, hm⟩ := bd1 hm
  refine o_callC en_84 rfl (s_skip (s_skip (s_skip (s_skip (s_skip (s_skip (s_skip (s_skip (s_skip (s_skip (s_skip (s_take (s_take (s_take (s_take (s_take s_nil)))))))))))))))) (t84 ho5 ho6 ho7 ho8 hx2) rfl (fun u2 S2 hR2 => ?_)
  obtain ⟨v10, g10, rfl, rfl, ho10⟩ := hR2
  refine o_rest ?_
  refine o_L (y_assign rfl) rfl rfl ?_
  refine o_nil0 rfl ?_
  refine c_seq ?_
  refine c_region ?_
  refine o_T (y_move rfl) rfl ?_
  refine o_T (y_move rfl) rfl ?_
  obtain ⟨c1, hx3, hm⟩ := bd1 hm
  refine o_callC en_85 rfl s_nil (t85 (ho9.rd.mono (fun _ hz => (ms (ms (ms (ms (ms (ms (ms (ms (ms (ms (ms (ms (ms (ms (ms (ms (mg hz))))))))))))))))))) (ho10.rd.mono (fun _ hz => (ms (ms (ms (ms (ms (mg hz)))))))) hx3) rfl (fun u3 S3 hR3 => ?_)
  obtain ⟨rfl, rfl⟩ := hR3
  refine o_rest ?_
  refine o_L (y_assign rfl) rfl rfl ?_
  refine o_nil0 rfl ?_
  refine c_seq ?_
  refine c_seq ?_
  refine c_region ?_
  refine o_T (y_move rfl) rfl ?_
  refine o_nil1 21 rfl rfl ?_
  refine c_cond rfl (fun h1 => ?_) (fun h1 => ?_)
  · have hm := cd_t h1 hm
    refine c_seq ?_
    refine c_region ?_
    refine o_T (y_move rfl) rfl ?_
    obtain ⟨_, hx4, hm⟩ := bd hm
    refine o_callC en_86 rfl (s_skip (s_skip (s_skip (s_skip (s_skip (s_skip (s_skip (s_skip (s_skip (s_skip (s_skip (s_skip (s_skip (s_skip (s_skip (s_skip (s_take s_nil))))))))))))))))) (t86 ho9 hx4) rfl (fun u4 S4 hR4 => ?_)
    obtain ⟨rfl, rfl⟩ := hR4
    refine o_rest ?_
    refine o_nil0 rfl ?_
    refine c_seq ?_
    refine c_region ?_
    refine o_T (y_move rfl) rfl ?_
    refine o_L (y_assign rfl) rfl rfl ?_
    refine o_nil0 rfl ?_
    refine c_ret ?_
    obtain rfl := p1 hm
    refine fun aX wX heX hsX => ret1 Tryz.results30 heX rfl (s_get (ks (ks (ks (ks (ks (ks k0)))))) (s_get (ks (ks (ks (ks (ks (ks k0)))))) (s_get (ks (ks (ks (ks (ks (ks k0)))))) (s_get (ks (ks (ks (ks (ks (ks k0)))))) (s_get (ks (ks (ks (ks (ks (ks k0)))))) (s_get (ks (ks (ks (ks (ks (ks k0)))))) (s_get (ks (ks (ks (ks (ks (ks k0)))))) (s_get (ks (ks (ks (ks (ks (ks k0)))))) (s_get (ks (ks (ks (ks (ks (ks k0)))))) (s_get (ks (ks (ks (ks (ks (ks k0)))))) (s_take (s_take (s_take (s_take (s_take (s_skip (s_take s_nil))))))))))))))))) ?_
    exact ⟨rfl, rfl⟩
  · have hm := cd_f h1 hm
    refine c_skip ?_
    refine c_seq ?_
    refine c_region ?_
    refine o_T (y_move rfl) rfl ?_
    obtain ⟨l3, hx5, hm⟩ := bd1 hm
    refine o_callC en_83 rfl (s_skip (s_skip (s_skip (s_skip (s_skip (s_skip (s_take (s_take (s_take (s_take (s_take (s_take (s_take (s_take (s_take (s_take s_nil)))))))))))))))) (t83 ho1 ho2 ho3 ho4 hx5) rfl (fun u5 S5 hR5 => ?_)
    obtain ⟨v11, g11, rfl, rfl, ho11⟩ := hR5
    refine o_rest ?_
    refine o_L (y_assign rfl) rfl rfl ?_
    refine o_nil0 rfl ?_
    refine c_seq ?_
    refine c_region ?_
    refine o_T (y_move rfl) rfl ?_
    obtain ⟨l4, hx6, hm⟩ := bd1 hm
    refine o_callC en_83 rfl (s_take (s_take (s_take (s_take (s_take (s_take (s_take (s_take (s_take (s_take s_nil)))))))))) (t83 ho1 ho2 ho3 ho4 hx6) rfl (fun u6 S6 hR6 => ?_)
    obtain ⟨v12, g12, rfl, rfl, ho12⟩ := hR6
    refine o_rest ?_
    refine o_L (y_assign rfl) rfl rfl ?_
    refine o_nil0 rfl ?_
    refine c_seq ?_
    refine c_region ?_
    refine o_T (y_move rfl) rfl ?_
    obtain ⟨_, hx7, hm⟩ := bd hm
    refine o_callC en_86 rfl (s_skip (s_skip (s_skip (s_skip (s_skip (s_skip (s_skip (s_skip (s_skip (s_skip (s_skip (s_skip (s_skip (s_skip (s_skip (s_skip (s_skip (s_skip (s_take s_nil))))))))))))))))))) (t86 ho9 hx7) rfl (fun u7 S7 hR7 => ?_)
    obtain ⟨rfl, rfl⟩ := hR7
    refine o_rest ?_
    refine o_nil0 rfl ?_
    refine c_seq ?_
    refine c_region ?_
    refine o_T (y_move rfl) rfl ?_
    refine o_T (y_move rfl) rfl ?_
    obtain ⟨c2, hx8, hm⟩ := bd1 hm
    refine o_callC en_85 rfl s_nil (t85 (ho11.rd.mono (fun _ hz => (ms (ms (ms (ms (ms (ms (ms (ms (ms (ms (ms (mg hz)))))))))))))) (ho10.rd.mono (fun _ hz => (ms (ms (ms (ms (ms (ms (ms (ms (ms (ms (ms (ms (ms (ms (ms (ms (ms (mg hz)))))))))))))))))))) hx8) rfl (fun u8 S8 hR8 => ?_)
    obtain ⟨rfl, rfl⟩ := hR8
    refine o_rest ?_
    refine o_L (y_assign rfl) rfl rfl ?_
    refine o_nil0 rfl ?_
    refine c_seq ?_
    refine c_region ?_
    refine o_T (y_move rfl) rfl ?_
    obtain ⟨_, hx9, hm⟩ := bd hm
    refine o_callC en_86 rfl (s_skip (s_skip (s_skip (s_skip (s_skip (s_skip (s_skip (s_skip (s_skip (s_skip (s_skip (s_take s_nil)))))))))))) (t86 ho11 hx9) rfl (fun u9 S9 hR9 => ?_)
    obtain ⟨rfl, rfl⟩ := hR9
    refine o_rest ?_
    refine o_nil0 rfl ?_
    refine c_seq ?_
    refine c_region ?_
    refine o_T (y_move rfl) rfl ?_
    refine o_T (y_move rfl) rfl ?_
    obtain ⟨c3, hx10, hm⟩ := bd1 hm
    refine o_callC en_85 rfl s_nil (t85 (ho12.rd.mono (fun _ hz => (ms (ms (ms (ms (ms (ms (ms (ms (ms (ms (mg hz))))))))))))) (ho10.rd.mono (fun _ hz => (ms (ms (ms (ms (ms (ms (ms (ms (ms (ms (ms (ms (ms (ms (ms (ms (mg hz))))))))))))))))))) hx10) rfl (fun u10 S10 hR10 => ?_)
    obtain ⟨rfl, rfl⟩ := hR10
    refine o_rest ?_
    refine o_L (y_assign rfl) rfl rfl ?_
    refine o_nil0 rfl ?_
    refine c_seq ?_
    refine c_region ?_
    refine o_T (y_move rfl) rfl ?_
    obtain ⟨_, hx11, hm⟩ := bd hm
    refine o_callC en_86 rfl (s_skip (s_skip (s_skip (s_skip (s_skip (s_skip (s_skip (s_skip (s_skip (s_skip (s_take s_nil))))))))))) (t86 ho12 hx11) rfl (fun u11 S11 hR11 => ?_)
    obtain ⟨rfl, rfl⟩ := hR11
    refine o_rest ?_
    refine o_nil0 rfl ?_
    refine c_seq ?_
    refine c_joinP (n := 0) (fun sh G => sh = [(6, .bool ((c1 && c2) && c3))] ∧ G = []) Sel.all' .z (fun _ _ h => h) ?_ ?_
    · skip
      refine c_region ?_
      refine o_T (y_move rfl) rfl ?_
      refine o_T (y_move rfl) rfl ?_
      refine o_split 42 rfl (fun h2 => ?_) (fun h2 => ?_)
      · skip
        refine o_take rfl rfl rfl ?_
        refine o_T (y_move rfl) rfl ?_
        refine o_T (y_pickT rfl rfl) rfl ?_
        refine o_T (y_move rfl) rfl ?_
        refine o_split 45 rfl (fun h3 => ?_) (fun h3 => ?_)
        · skip
          refine o_take rfl rfl rfl ?_
          refine o_T (y_move rfl) rfl ?_
          refine o_T (y_pickT rfl rfl) rfl ?_
          refine o_L (y_assign rfl) rfl rfl ?_
          refine o_nil0 rfl ?_
          refine ⟨_, _, ⟨rfl, rfl⟩, ⟨by first | rfl | exact gtb rfl (by simp only [h2, h3, Bool.true_and, Bool.false_and, Bool.true_or, Bool.false_or, Bool.and_true, Bool.and_false, Bool.or_true, Bool.or_false, Bool.not_true, Bool.not_false]), trivial⟩, ⟨rfl, rfl⟩, _, (s_take (s_take (s_take (s_take (s_take (s_take (s_take (s_take (s_take (s_take (s_take (s_take (s_take (s_take (s_take (s_take (s_take s_nil)))))))))))))))))⟩
        · skip
          refine o_pass rfl rfl rfl rfl rfl ?_
          refine o_T (y_pickF rfl rfl) rfl ?_
          refine o_L (y_assign rfl) rfl rfl ?_
          refine o_nil0 rfl ?_
          refine ⟨_, _, ⟨rfl, rfl⟩, ⟨by first | rfl | exact gtb rfl (by simp only [h2, h3, Bool.true_and, Bool.false_and, Bool.true_or, Bool.false_or, Bool.and_true, Bool.and_false, Bool.or_true, Bool.or_false, Bool.not_true, Bool.not_false]), trivial⟩, ⟨rfl, rfl⟩, _, (s_take (s_take (s_take (s_take (s_take (s_take (s_take (s_take (s_take (s_take (s_take (s_take (s_take (s_take (s_take (s_take (s_take s_nil)))))))))))))))))⟩
      · skip
        refine o_pass rfl rfl rfl rfl rfl ?_
        refine o_T (y_pickF rfl rfl) rfl ?_
        refine o_T (y_move rfl) rfl ?_
        refine o_pass rfl rfl rfl rfl rfl ?_
        refine o_T (y_pickF rfl rfl) rfl ?_
        refine o_L (y_assign rfl) rfl rfl ?_
        refine o_nil0 rfl ?_
        refine ⟨_, _, ⟨rfl, rfl⟩, ⟨by first | rfl | exact gtb rfl (by simp only [h2, Bool.true_and, Bool.false_and, Bool.true_or, Bool.false_or, Bool.and_true, Bool.and_false, Bool.or_true, Bool.or_false, Bool.not_true, Bool.not_false]), trivial⟩, ⟨rfl, rfl⟩, _, (s_take (s_take (s_take (s_take (s_take (s_take (s_take (s_take (s_take (s_take (s_take (s_take (s_take (s_take (s_take (s_take (s_take s_nil)))))))))))))))))⟩
    · rintro sh G ⟨rfl, rfl⟩
      refine c_ret ?_
      obtain rfl := p1 hm
      refine fun aX wX heX hsX => ret1 Tryz.results30 heX rfl (s_take (s_take (s_take (s_take (s_take (s_take (s_take (s_take (s_take (s_take (s_take (s_take (s_take (s_take (s_take (s_skip (s_take s_nil))))))))))))))))) ?_
      exact ⟨rfl, rfl⟩
end Go.Proofs.Qxb6500350aGreat
