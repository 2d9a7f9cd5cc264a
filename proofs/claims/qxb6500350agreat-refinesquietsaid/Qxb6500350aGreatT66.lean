/- MADE BY PROGRAM (tools350/mir.py): mirror and walk. -/
import Derived.Test.Qxb6500350aGreatF2
import Derived.Test.Qxb6500350aGreatT136
import Derived.Test.Qxb6500350aGreatT140
import Derived.Test.Qxb6500350aGreatT134
import Derived.Test.Qxb6500350aGreatT156
import Derived.Test.Qxb6500350aGreatT157
import Derived.Test.Qxb6500350aGreatT158
import Derived.Test.Qxb6500350aGreatT124
import Derived.Test.Qxb6500350aGreatT125
import Derived.Test.Qxb6500350aGreatT135
import Derived.Test.Qxb6500350aGreatT27
import Derived.Test.Qxb6500350aGreatT159
import Derived.Test.Qxb6500350aGreatT152
import Derived.Test.Qxb6500350aGreatT71
set_option linter.unusedVariables false
set_option linter.unusedSimpArgs false
set_option maxRecDepth 20000
set_option maxHeartbeats 4000000
namespace Go.Proofs.Qxb6500350aGreat
open Go.Eng

/- (*repom.Repo).Merge -/
def m66 (n : Nat) (m : RepoM) (name : Str) : Option (Int × Int × RepoM) :=
ob1 (m136 n name) fun c1 =>
cond (!c1) (
some (0, 14, m)) (
ob1 (m140 n m.refs name) fun c2 =>
cond (decide (c2 < 0)) (
some (0, 16, m)) (
ob1 (m134 n m) fun c3 =>
Option.bind (ixL m.refs c2) fun x1 =>
cond (decide (c3 = 0)) (
some (0, 17, m)) (
cond (decide (¬ (m.head.merge = 0))) (
some (0, 24, m)) (
ob1 (m156 n m) fun c4 =>
cond (!c4) (
some (0, 22, m)) (
ob1 (m157 n m.nodes c3 x1.seq) fun c5 =>
cond (decide (c5 = x1.seq)) (
some (0, 23, m)) (
cond (decide (c5 = c3)) (
ob1 (m158 n m x1.seq) fun l1 =>
ob1 (m124 n l1) fun c6 =>
ob2 (m125 n m (wi (c6 + 1))) fun c7 z2 =>
cond (!c7) (
some (0, 5, z2)) (
ob1 (m135 n z2 x1.seq) fun z3 =>
ob1 (m27 n l1) fun l2 =>
nm ({ z3 with index := l2 } : RepoM) fun z4 =>
ob1 (m27 n l1) fun l3 =>
nm ({ z4 with work := l3 } : RepoM) fun z5 =>
some (0, 0, z5))) (
ob1 (m158 n m c5) fun l4 =>
ob1 (m158 n m c3) fun l5 =>
ob1 (m158 n m x1.seq) fun l6 =>
ob2 (m159 n l4 l5 l6) fun l7 c8 =>
ob1 (m152 n l7) fun c9 =>
cond (decide (¬ (c9 = 0))) (
some (0, c9, m)) (
cond (decide ((0 : Int) < c8)) (
ob1 (m124 n l7) fun c10 =>
ob2 (m125 n m (wi (c10 + 1))) fun c11 z6 =>
cond (!c11) (
some (0, 5, z6)) (
nm ({ z6 with head := { z6.head with merge := x1.seq } } : RepoM) fun z7 =>
nm ({ z7 with index := l7 } : RepoM) fun z8 =>
ob1 (m71 n l7) fun l8 =>
nm ({ z8 with work := l8 } : RepoM) fun z9 =>
some (c8, 0, z9))) (
cond (decide ((40 : Int) ≤ (m.nodes.length : Int))) (
some (0, 8, m)) (
ob1 (m124 n l7) fun c12 =>
ob2 (m125 n m (wi ((wi (2 * c12)) + 2))) fun c13 z10 =>
cond (!c13) (
some (0, 5, z10)) (
nm ({ z10 with nxt := (wi (z10.nxt + 1)) } : RepoM) fun z11 =>
ob1 (m27 n l7) fun l9 =>
Option.bind (apd z11.nodes ({ seq := z10.nxt, files := l9, parents := ([c3, x1.seq] : List Int), msg := [109, 101, 114, 103, 101] } : Node)) fun l10 =>
nm ({ z11 with nodes := l10 } : RepoM) fun z12 =>
ob1 (m135 n z12 z10.nxt) fun z13 =>
nm ({ z13 with index := l7 } : RepoM) fun z14 =>
ob1 (m27 n l7) fun l11 =>
nm ({ z14 with work := l11 } : RepoM) fun z15 =>
some (0, 0, z15))))))))))))
theorem t66 {n : Nat} {C : List Chunk} {rc1 : Int} {rc2 : Int} {rz1 : RepoM} {b1 : Nat} {m : RepoM} {v1 : Value} {g1 : List Chunk} {v2 : Value} {g2 : List Chunk} {v3 : Value} {g3 : List Chunk} {v4 : Value} {g4 : List Chunk} {name : Str} (ho1 : Own rNode v1 m.nodes g1) (ho2 : Own rRef_ v2 m.refs g2) (ho3 : Own rFile v3 m.index g3) (ho4 : Own rFile v4 m.work g4)  (hm : m66 n m name = some (rc1, rc2, rz1)) : Trip Tryz.prog 66 #[.pointer (some ⟨b1, 0, none⟩), .string ⟨(name : Str).toArray⟩] ([[(b1, .cells (RepoM.enc (v1) (v2) (v3) (v4) m).toArray 59 (0, 0))], g1, g2, g3, g4] ++ [C]) (fun u S' => ∃ (ev1 : Value), ∃ (eg1 : List Chunk), ∃ (ev2 : Value), ∃ (eg2 : List Chunk), ∃ (ev3 : Value), ∃ (eg3 : List Chunk), ∃ (ev4 : Value), ∃ (eg4 : List Chunk), .tuple #[.int .i64 rc1, .int .i64 rc2] = u ∧ S' = [[(b1, .cells (RepoM.enc (ev1) (ev2) (ev3) (ev4) rz1).toArray 59 (0, 0))], eg1, eg2, eg3, eg4] ++ [C] ∧ Own rNode ev1 rz1.nodes eg1 ∧ Own rRef_ ev2 rz1.refs eg2 ∧ Own rFile ev3 rz1.index eg3 ∧ Own rFile ev4 rz1.work eg4) := by
  refine fn_entry (args := [.pointer (some ⟨b1, 0, none⟩), .string ⟨(name : Str).toArray⟩]) Tryz.func66 rfl Tryz.ntmps66 rfl (fun w0 => ?_)
  refine c_seq ?_
  refine c_region ?_
  refine o_L (y_assign rfl) rfl rfl ?_
  refine o_L (y_assign rfl) rfl rfl ?_
  refine o_nil0 rfl ?_
  refine c_seq ?_
  refine c_seq ?_
  refine c_region ?_
  refine o_T (y_move rfl) rfl ?_
  obtain ⟨c1, hx1, hm⟩ := bd1 hm
  refine o_callC en_136 rfl s_nil (t136 hx1) rfl (fun u1 S1 hR1 => ?_)
  obtain ⟨rfl, rfl⟩ := hR1
  refine o_rest ?_
  refine o_T (y_not rfl) rfl ?_
  refine o_nil1 24 rfl rfl ?_
  refine c_cond rfl (fun h1 => ?_) (fun h1 => ?_)
  · have hm := cd_t h1 hm
    refine c_seq ?_
    refine c_region ?_
    refine o_L (y_assign rfl) rfl rfl ?_
    refine o_L (y_assign rfl) rfl rfl ?_
    refine o_nil0 rfl ?_
    refine c_ret ?_
    obtain ⟨rfl, rfl, rfl⟩ := pr3 hm
    refine fun aX wX heX hsX => ret2 Tryz.results66 heX rfl rfl (s_take (s_take (s_take (s_take (s_take (s_take s_nil)))))) ?_
    exact ⟨v1, _, v2, _, v3, _, v4, _, rfl, rfl, ho1, ho2, ho3, ho4⟩
  · have hm := cd_f h1 hm
    refine c_skip ?_
    refine c_seq ?_
    refine c_region ?_
    refine o_T (y_move rfl) rfl ?_
    refine o_T (y_nilck rfl) rfl ?_
    refine o_T (y_fa fl_59_2 rfl) rfl ?_
    refine o_ld one_56 rfl m0 (At.got (At.refl.comp RepoM.a_refs)) rfl ?_
    refine o_T (y_move rfl) rfl ?_
    obtain ⟨c2, hx2, hm⟩ := bd1 hm
    refine o_callC en_140 rfl s_nil (t140 (ho2.rd.mono (fun _ hz => (ms (ms (mg hz))))) hx2) rfl (fun u2 S2 hR2 => ?_)
    obtain ⟨rfl, rfl⟩ := hR2
    refine o_rest ?_
    refine o_L (y_assign rfl) rfl rfl ?_
    refine o_nil0 rfl ?_
    refine c_seq ?_
    refine c_seq ?_
    refine c_region ?_
    refine o_T (y_move rfl) rfl ?_
    refine o_T (y_lss rfl rfl) rfl ?_
    refine o_nil1 32 rfl rfl ?_
    refine c_cond rfl (fun h2 => ?_) (fun h2 => ?_)
    · have hm := cd_t h2 hm
      refine c_seq ?_
      refine c_region ?_
      refine o_L (y_assign rfl) rfl rfl ?_
      refine o_L (y_assign rfl) rfl rfl ?_
      refine o_nil0 rfl ?_
      refine c_ret ?_
      obtain ⟨rfl, rfl, rfl⟩ := pr3 hm
      refine fun aX wX heX hsX => ret2 Tryz.results66 heX rfl rfl (s_take (s_take (s_take (s_take (s_take (s_take s_nil)))))) ?_
      exact ⟨v1, _, v2, _, v3, _, v4, _, rfl, rfl, ho1, ho2, ho3, ho4⟩
    · have hm := cd_f h2 hm
      refine c_skip ?_
      refine c_seq ?_
      refine c_region ?_
      refine o_T (y_move rfl) rfl ?_
      obtain ⟨c3, hx3, hm⟩ := bd1 hm
      refine o_callC en_134 rfl (s_take (s_take (s_take (s_take (s_take s_nil))))) (t134 ho1 ho2 ho3 ho4 hx3) rfl (fun u3 S3 hR3 => ?_)
      obtain ⟨rfl, rfl⟩ := hR3
      refine o_rest ?_
      refine o_L (y_assign rfl) rfl rfl ?_
      refine o_nil0 rfl ?_
      refine c_seq ?_
      refine c_region ?_
      refine o_T (y_move rfl) rfl ?_
      refine o_T (y_nilck rfl) rfl ?_
      refine o_T (y_fa fl_59_2 rfl) rfl ?_
      refine o_ld one_56 rfl m0 (At.got (At.refl.comp RepoM.a_refs)) rfl ?_
      refine o_T (y_move rfl) rfl ?_
      obtain ⟨x1, hx4, hm⟩ := bd hm
      obtain ⟨b2, w1, cs1, y1, z1, vs1, hc1, ha1, hr1, hy1⟩ := ho2.rd.ix hx4
      obtain rfl : vs1 = Ref_.enc x1 := hr1
      refine o_T (hy1 sl_56 rfl rfl rfl) rfl ?_
      refine o_T (y_fa fl_96_1 rfl) rfl ?_
      refine o_ld one_3 rfl (ms (ms (mg hc1))) (At.getA (ha1.comp Ref_.a_seq)) rfl ?_
      refine o_L (y_assign rfl) rfl rfl ?_
      refine o_nil0 rfl ?_
      refine c_seq ?_
      refine c_seq ?_
      refine c_region ?_
      refine o_T (y_move rfl) rfl ?_
      refine o_T (y_eql rfl rfl) rfl ?_
      refine o_nil1 44 rfl rfl ?_
      refine c_cond rfl (fun h3 => ?_) (fun h3 => ?_)
      · have hm := cd_t h3 hm
        refine c_seq ?_
        refine c_region ?_
        refine o_L (y_assign rfl) rfl rfl ?_
        refine o_L (y_assign rfl) rfl rfl ?_
        refine o_nil0 rfl ?_
        refine c_ret ?_
        obtain ⟨rfl, rfl, rfl⟩ := pr3 hm
        refine fun aX wX heX hsX => ret2 Tryz.results66 heX rfl rfl (s_take (s_take (s_take (s_take (s_take (s_take s_nil)))))) ?_
        exact ⟨v1, _, v2, _, v3, _, v4, _, rfl, rfl, ho1, ho2, ho3, ho4⟩
      · have hm := cd_f h3 hm
        refine c_skip ?_
        refine c_seq ?_
        refine c_seq ?_
        refine c_region ?_
        refine o_T (y_move rfl) rfl ?_
        refine o_T (y_nilck rfl) rfl ?_
        refine o_T (y_fa fl_59_3 rfl) rfl ?_
        refine o_T (y_fa fl_54_2 rfl) rfl ?_
        refine o_ld one_3 rfl m0 (At.got ((At.refl.comp RepoM.a_head).comp Head.a_merge)) rfl ?_
        refine o_T (y_neq rfl rfl) rfl ?_
        refine o_nil1 50 rfl rfl ?_
        refine c_cond rfl (fun h4 => ?_) (fun h4 => ?_)
        · have hm := cd_t h4 hm
          refine c_seq ?_
          refine c_region ?_
          refine o_L (y_assign rfl) rfl rfl ?_
          refine o_L (y_assign rfl) rfl rfl ?_
          refine o_nil0 rfl ?_
          refine c_ret ?_
          obtain ⟨rfl, rfl, rfl⟩ := pr3 hm
          refine fun aX wX heX hsX => ret2 Tryz.results66 heX rfl rfl (s_take (s_take (s_take (s_take (s_take (s_take s_nil)))))) ?_
          exact ⟨v1, _, v2, _, v3, _, v4, _, rfl, rfl, ho1, ho2, ho3, ho4⟩
        · have hm := cd_f h4 hm
          refine c_skip ?_
          refine c_seq ?_
          refine c_seq ?_
          refine c_region ?_
          refine o_T (y_move rfl) rfl ?_
          obtain ⟨c4, hx5, hm⟩ := bd1 hm
          refine o_callC en_156 rfl (s_take (s_take (s_take (s_take (s_take s_nil))))) (t156 ho1 ho2 ho3 ho4 hx5) rfl (fun u4 S4 hR4 => ?_)
          obtain ⟨rfl, rfl⟩ := hR4
          refine o_rest ?_
          refine o_T (y_not rfl) rfl ?_
          refine o_nil1 53 rfl rfl ?_
          refine c_cond rfl (fun h5 => ?_) (fun h5 => ?_)
          · have hm := cd_t h5 hm
            refine c_seq ?_
            refine c_region ?_
            refine o_L (y_assign rfl) rfl rfl ?_
            refine o_L (y_assign rfl) rfl rfl ?_
            refine o_nil0 rfl ?_
            refine c_ret ?_
            obtain ⟨rfl, rfl, rfl⟩ := pr3 hm
            refine fun aX wX heX hsX => ret2 Tryz.results66 heX rfl rfl (s_take (s_take (s_take (s_take (s_take (s_take s_nil)))))) ?_
            exact ⟨v1, _, v2, _, v3, _, v4, _, rfl, rfl, ho1, ho2, ho3, ho4⟩
          · have hm := cd_f h5 hm
            refine c_skip ?_
            refine c_seq ?_
            refine c_region ?_
            refine o_T (y_move rfl) rfl ?_
            refine o_T (y_nilck rfl) rfl ?_
            refine o_T (y_fa fl_59_0 rfl) rfl ?_
            refine o_ld one_55 rfl m0 (At.got (At.refl.comp RepoM.a_nodes)) rfl ?_
            refine o_T (y_move rfl) rfl ?_
            refine o_T (y_move rfl) rfl ?_
            obtain ⟨c5, hx6, hm⟩ := bd1 hm
            refine o_callC en_157 rfl s_nil (t157 (ho1.rd.mono (fun _ hz => (ms (mg hz)))) hx6) rfl (fun u5 S5 hR5 => ?_)
            obtain ⟨rfl, rfl⟩ := hR5
            refine o_rest ?_
            refine o_L (y_assign rfl) rfl rfl ?_
            refine o_nil0 rfl ?_
            refine c_seq ?_
            refine c_seq ?_
            refine c_region ?_
            refine o_T (y_move rfl) rfl ?_
            refine o_T (y_move rfl) rfl ?_
            refine o_T (y_eql rfl rfl) rfl ?_
            refine o_nil1 63 rfl rfl ?_
            refine c_cond rfl (fun h6 => ?_) (fun h6 => ?_)
            · have hm := cd_t h6 hm
              refine c_seq ?_
              refine c_region ?_
              refine o_L (y_assign rfl) rfl rfl ?_
              refine o_L (y_assign rfl) rfl rfl ?_
              refine o_nil0 rfl ?_
              refine c_ret ?_
              obtain ⟨rfl, rfl, rfl⟩ := pr3 hm
              refine fun aX wX heX hsX => ret2 Tryz.results66 heX rfl rfl (s_take (s_take (s_take (s_take (s_take (s_take s_nil)))))) ?_
              exact ⟨v1, _, v2, _, v3, _, v4, _, rfl, rfl, ho1, ho2, ho3, ho4⟩
            · have hm := cd_f h6 hm
              refine c_skip ?_
              refine c_seq ?_
              refine c_seq ?_
              refine c_region ?_
              refine o_T (y_move rfl) rfl ?_
              refine o_T (y_move rfl) rfl ?_
              refine o_T (y_eql rfl rfl) rfl ?_
              refine o_nil1 66 rfl rfl ?_
              refine c_cond rfl (fun h7 => ?_) (fun h7 => ?_)
              · have hm := cd_t h7 hm
                refine c_seq ?_
                refine c_region ?_
                refine o_T (y_move rfl) rfl ?_
                refine o_T (y_move rfl) rfl ?_
                obtain ⟨l1, hx7, hm⟩ := bd1 hm
                refine o_callC en_158 rfl (s_take (s_take (s_take (s_take (s_take s_nil))))) (t158 ho1 ho2 ho3 ho4 hx7) rfl (fun u6 S6 hR6 => ?_)
                obtain ⟨v5, rfl, rfl, hr2⟩ := hR6
                refine o_rest ?_
                refine o_L (y_assign rfl) rfl rfl ?_
                refine o_nil0 rfl ?_
                refine c_seq ?_
                refine c_region ?_
                refine o_T (y_move rfl) rfl ?_
                obtain ⟨c6, hx8, hm⟩ := bd1 hm
                refine o_callC en_124 rfl s_nil (t124 (hr2.mono (fun _ hz => (ms (mg hz)))) hx8) rfl (fun u7 S7 hR7 => ?_)
                obtain ⟨rfl, rfl⟩ := hR7
                refine o_rest ?_
                refine o_T (y_add rfl rfl rfl) rfl ?_
                refine o_L (y_assign rfl) rfl rfl ?_
                refine o_nil0 rfl ?_
                refine c_seq ?_
                refine c_seq ?_
                refine c_region ?_
                refine o_T (y_move rfl) rfl ?_
                refine o_T (y_move rfl) rfl ?_
                obtain ⟨c7, z2, hx9, hm⟩ := bd2 hm
                refine o_callC en_125 rfl (s_take (s_take (s_take (s_take (s_take s_nil))))) (t125 ho1 ho2 ho3 ho4 hx9) rfl (fun u8 S8 hR8 => ?_)
                obtain ⟨rfl, rfl, ho5, ho6, ho7, ho8⟩ := hR8
                refine o_rest ?_
                refine o_T (y_not rfl) rfl ?_
                refine o_nil1 76 rfl rfl ?_
                refine c_cond rfl (fun h8 => ?_) (fun h8 => ?_)
                · have hm := cd_t h8 hm
                  refine c_seq ?_
                  refine c_region ?_
                  refine o_L (y_assign rfl) rfl rfl ?_
                  refine o_L (y_assign rfl) rfl rfl ?_
                  refine o_nil0 rfl ?_
                  refine c_ret ?_
                  obtain ⟨rfl, rfl, rfl⟩ := pr3 hm
                  refine fun aX wX heX hsX => ret2 Tryz.results66 heX rfl rfl (s_take (s_take (s_take (s_take (s_take (s_take s_nil)))))) ?_
                  exact ⟨v1, _, v2, _, v3, _, v4, _, rfl, rfl, ho5, ho6, ho7, ho8⟩
                · have hm := cd_f h8 hm
                  refine c_skip ?_
                  refine c_seq ?_
                  refine c_region ?_
                  refine o_T (y_move rfl) rfl ?_
                  refine o_T (y_move rfl) rfl ?_
                  obtain ⟨z3, hx10, hm⟩ := bd1 hm
                  refine o_callC en_135 rfl (s_take (s_take (s_take (s_take (s_take s_nil))))) (t135 ho5 ho6 ho7 ho8 hx10) rfl (fun u9 S9 hR9 => ?_)
                  obtain ⟨v11, g10, rfl, rfl, ho9, ho10, ho11, ho12⟩ := hR9
                  refine o_rest ?_
                  refine o_nil0 rfl ?_
                  refine c_seq ?_
                  refine c_region ?_
                  refine o_T (y_move rfl) rfl ?_
                  refine o_T (y_move rfl) rfl ?_
                  obtain ⟨l2, hx11, hm⟩ := bd1 hm
                  refine o_callC en_27 rfl s_nil (t27 (hr2.mono (fun _ hz => (ms (mg hz)))) hx11) rfl (fun u10 S10 hR10 => ?_)
                  obtain ⟨v14, g13, rfl, rfl, ho13⟩ := hR10
                  refine o_rest ?_
                  refine o_T (y_nilck rfl) rfl ?_
                  refine o_T (y_fa fl_59_4 rfl) rfl ?_
                  obtain ⟨z4, hn1, hm⟩ := nm_s hm
                  have ho14 := ho9.to (l' := z4.nodes) (by subst hn1; rfl)
                  have ho15 := ho10.to (l' := z4.refs) (by subst hn1; rfl)
                  have ho16 := ho13.to (l' := z4.index) (by subst hn1; rfl)
                  have ho17 := ho12.to (l' := z4.work) (by subst hn1; rfl)
                  refine o_stN one_57 rfl rfl ho13.pl (Upd.z RepoM.u_index) (rs r0) (show (RepoM.enc (v1) (v11) (v14) (v4) z4) = _ from by subst hn1; rfl) ?_
                  refine o_nil0 rfl ?_
                  refine c_seq ?_
                  refine c_region ?_
                  refine o_T (y_move rfl) rfl ?_
                  refine o_T (y_move rfl) rfl ?_
                  obtain ⟨l3, hx12, hm⟩ := bd1 hm
                  refine o_callC en_27 rfl s_nil (t27 (hr2.mono (fun _ hz => (ms (ms (mg hz))))) hx12) rfl (fun u11 S11 hR11 => ?_)
                  obtain ⟨v15, g14, rfl, rfl, ho18⟩ := hR11
                  refine o_rest ?_
                  refine o_T (y_nilck rfl) rfl ?_
                  refine o_T (y_fa fl_59_5 rfl) rfl ?_
                  obtain ⟨z5, hn2, hm⟩ := nm_s hm
                  have ho19 := ho14.to (l' := z5.nodes) (by subst hn2; rfl)
                  have ho20 := ho15.to (l' := z5.refs) (by subst hn2; rfl)
                  have ho21 := ho16.to (l' := z5.index) (by subst hn2; rfl)
                  have ho22 := ho18.to (l' := z5.work) (by subst hn2; rfl)
                  refine o_stN one_57 rfl rfl ho18.pl (Upd.z RepoM.u_work) (rs (rs r0)) (show (RepoM.enc (v1) (v11) (v14) (v15) z5) = _ from by subst hn2; rfl) ?_
                  refine o_nil0 rfl ?_
                  refine c_seq ?_
                  refine c_region ?_
                  refine o_L (y_assign rfl) rfl rfl ?_
                  refine o_L (y_assign rfl) rfl rfl ?_
                  refine o_nil0 rfl ?_
                  refine c_ret ?_
                  obtain ⟨rfl, rfl, rfl⟩ := pr3 hm
                  refine fun aX wX heX hsX => ret2 Tryz.results66 heX rfl rfl (s_get (ks (ks k0)) (s_get (ks (ks k0)) (s_get (ks (ks k0)) (s_get (ks k0) (s_take (s_skip (s_skip (s_take s_nil)))))))) ?_
                  exact ⟨v1, _, v11, _, v14, _, v15, _, rfl, rfl, ho19, ho20, ho21, ho22⟩
              · have hm := cd_f h7 hm
                refine c_skip ?_
                refine c_seq ?_
                refine c_region ?_
                refine o_T (y_move rfl) rfl ?_
                refine o_T (y_move rfl) rfl ?_
                obtain ⟨l4, hx13, hm⟩ := bd1 hm
                refine o_callC en_158 rfl (s_take (s_take (s_take (s_take (s_take s_nil))))) (t158 ho1 ho2 ho3 ho4 hx13) rfl (fun u12 S12 hR12 => ?_)
                obtain ⟨v16, rfl, rfl, hr3⟩ := hR12
                refine o_rest ?_
                refine o_L (y_assign rfl) rfl rfl ?_
                refine o_nil0 rfl ?_
                refine c_seq ?_
                refine c_region ?_
                refine o_T (y_move rfl) rfl ?_
                refine o_T (y_move rfl) rfl ?_
                obtain ⟨l5, hx14, hm⟩ := bd1 hm
                refine o_callC en_158 rfl (s_take (s_take (s_take (s_take (s_take s_nil))))) (t158 ho1 ho2 ho3 ho4 hx14) rfl (fun u13 S13 hR13 => ?_)
                obtain ⟨v17, rfl, rfl, hr4⟩ := hR13
                refine o_rest ?_
                refine o_L (y_assign rfl) rfl rfl ?_
                refine o_nil0 rfl ?_
                refine c_seq ?_
                refine c_region ?_
                refine o_T (y_move rfl) rfl ?_
                refine o_T (y_move rfl) rfl ?_
                obtain ⟨l6, hx15, hm⟩ := bd1 hm
                refine o_callC en_158 rfl (s_take (s_take (s_take (s_take (s_take s_nil))))) (t158 ho1 ho2 ho3 ho4 hx15) rfl (fun u14 S14 hR14 => ?_)
                obtain ⟨v18, rfl, rfl, hr5⟩ := hR14
                refine o_rest ?_
                refine o_L (y_assign rfl) rfl rfl ?_
                refine o_nil0 rfl ?_
                refine c_seq ?_
                refine c_region ?_
                refine o_T (y_move rfl) rfl ?_
                refine o_T (y_move rfl) rfl ?_
                refine o_T (y_move rfl) rfl ?_
                obtain ⟨l7, c8, hx16, hm⟩ := bd2 hm
                refine o_callC en_159 rfl s_nil (t159 (hr3.mono (fun _ hz => (ms (mg hz)))) (hr4.mono (fun _ hz => (ms (mg hz)))) (hr5.mono (fun _ hz => (ms (mg hz)))) hx16) rfl (fun u15 S15 hR15 => ?_)
                obtain ⟨v19, g15, rfl, rfl, ho23⟩ := hR15
                refine o_rest ?_
                refine o_T (y_move rfl) rfl ?_
                refine o_T (y_extract rfl rfl) rfl ?_
                refine o_T (y_extract rfl rfl) rfl ?_
                refine o_L (y_assign rfl) rfl rfl ?_
                refine o_L (y_assign rfl) rfl rfl ?_
                refine o_nil0 rfl ?_
                refine c_seq ?_
                refine c_region ?_
                refine o_T (y_move rfl) rfl ?_
                obtain ⟨c9, hx17, hm⟩ := bd1 hm
                refine o_callC en_152 rfl s_nil (t152 (ho23.rd.mono (fun _ hz => (mg hz))) hx17) rfl (fun u16 S16 hR16 => ?_)
                obtain ⟨rfl, rfl⟩ := hR16
                refine o_rest ?_
                refine o_L (y_assign rfl) rfl rfl ?_
                refine o_nil0 rfl ?_
                refine c_seq ?_
                refine c_seq ?_
                refine c_region ?_
                refine o_T (y_move rfl) rfl ?_
                refine o_T (y_neq rfl rfl) rfl ?_
                refine o_nil1 109 rfl rfl ?_
                refine c_cond rfl (fun h9 => ?_) (fun h9 => ?_)
                · have hm := cd_t h9 hm
                  refine c_seq ?_
                  refine c_region ?_
                  refine o_T (y_move rfl) rfl ?_
                  refine o_L (y_assign rfl) rfl rfl ?_
                  refine o_L (y_assign rfl) rfl rfl ?_
                  refine o_nil0 rfl ?_
                  refine c_ret ?_
                  obtain ⟨rfl, rfl, rfl⟩ := pr3 hm
                  refine fun aX wX heX hsX => ret2 Tryz.results66 heX rfl rfl (s_skip (s_take (s_take (s_take (s_take (s_take (s_take s_nil))))))) ?_
                  exact ⟨v1, _, v2, _, v3, _, v4, _, rfl, rfl, ho1, ho2, ho3, ho4⟩
                · have hm := cd_f h9 hm
                  refine c_skip ?_
                  refine c_seq ?_
                  refine c_seq ?_
                  refine c_region ?_
                  refine o_T (y_move rfl) rfl ?_
                  refine o_T (y_gtr rfl rfl) rfl ?_
                  refine o_nil1 112 rfl rfl ?_
                  refine c_cond rfl (fun h10 => ?_) (fun h10 => ?_)
                  · have hm := cd_t h10 hm
                    refine c_seq ?_
                    refine c_region ?_
                    refine o_T (y_move rfl) rfl ?_
                    obtain ⟨c10, hx18, hm⟩ := bd1 hm
                    refine o_callC en_124 rfl s_nil (t124 (ho23.rd.mono (fun _ hz => (mg hz))) hx18) rfl (fun u17 S17 hR17 => ?_)
                    obtain ⟨rfl, rfl⟩ := hR17
                    refine o_rest ?_
                    refine o_T (y_add rfl rfl rfl) rfl ?_
                    refine o_L (y_assign rfl) rfl rfl ?_
                    refine o_nil0 rfl ?_
                    refine c_seq ?_
                    refine c_seq ?_
                    refine c_region ?_
                    refine o_T (y_move rfl) rfl ?_
                    refine o_T (y_move rfl) rfl ?_
                    obtain ⟨c11, z6, hx19, hm⟩ := bd2 hm
                    refine o_callC en_125 rfl (s_skip (s_take (s_take (s_take (s_take (s_take s_nil)))))) (t125 ho1 ho2 ho3 ho4 hx19) rfl (fun u18 S18 hR18 => ?_)
                    obtain ⟨rfl, rfl, ho24, ho25, ho26, ho27⟩ := hR18
                    refine o_rest ?_
                    refine o_T (y_not rfl) rfl ?_
                    refine o_nil1 119 rfl rfl ?_
                    refine c_cond rfl (fun h11 => ?_) (fun h11 => ?_)
                    · have hm := cd_t h11 hm
                      refine c_seq ?_
                      refine c_region ?_
                      refine o_L (y_assign rfl) rfl rfl ?_
                      refine o_L (y_assign rfl) rfl rfl ?_
                      refine o_nil0 rfl ?_
                      refine c_ret ?_
                      obtain ⟨rfl, rfl, rfl⟩ := pr3 hm
                      refine fun aX wX heX hsX => ret2 Tryz.results66 heX rfl rfl (s_take (s_take (s_take (s_take (s_take (s_skip (s_take s_nil))))))) ?_
                      exact ⟨v1, _, v2, _, v3, _, v4, _, rfl, rfl, ho24, ho25, ho26, ho27⟩
                    · have hm := cd_f h11 hm
                      refine c_skip ?_
                      refine c_seq ?_
                      refine c_region ?_
                      refine o_T (y_move rfl) rfl ?_
                      refine o_T (y_move rfl) rfl ?_
                      refine o_T (y_nilck rfl) rfl ?_
                      refine o_T (y_fa fl_59_3 rfl) rfl ?_
                      refine o_T (y_fa fl_54_2 rfl) rfl ?_
                      obtain ⟨z7, hn3, hm⟩ := nm_s hm
                      have ho28 := ho24.to (l' := z7.nodes) (by subst hn3; rfl)
                      have ho29 := ho25.to (l' := z7.refs) (by subst hn3; rfl)
                      have ho30 := ho26.to (l' := z7.index) (by subst hn3; rfl)
                      have ho31 := ho27.to (l' := z7.work) (by subst hn3; rfl)
                      refine o_stN one_3 rfl rfl rfl ((Upd.z RepoM.u_head).comp Head.u_merge) r0 (show (RepoM.enc (v1) (v2) (v3) (v4) z7) = _ from by subst hn3; rfl) ?_
                      refine o_nil0 rfl ?_
                      refine c_seq ?_
                      refine c_region ?_
                      refine o_T (y_move rfl) rfl ?_
                      refine o_T (y_move rfl) rfl ?_
                      refine o_T (y_nilck rfl) rfl ?_
                      refine o_T (y_fa fl_59_4 rfl) rfl ?_
                      obtain ⟨z8, hn4, hm⟩ := nm_s hm
                      have ho32 := ho28.to (l' := z8.nodes) (by subst hn4; rfl)
                      have ho33 := ho29.to (l' := z8.refs) (by subst hn4; rfl)
                      have ho34 := ho23.to (l' := z8.index) (by subst hn4; rfl)
                      have ho35 := ho31.to (l' := z8.work) (by subst hn4; rfl)
                      refine o_stN one_57 rfl rfl ho23.pl (Upd.z RepoM.u_index) r0 (show (RepoM.enc (v1) (v2) (v19) (v4) z8) = _ from by subst hn4; rfl) ?_
                      refine o_nil0 rfl ?_
                      refine c_seq ?_
                      refine c_region ?_
                      refine o_T (y_move rfl) rfl ?_
                      refine o_T (y_move rfl) rfl ?_
                      obtain ⟨l8, hx20, hm⟩ := bd1 hm
                      refine o_callC en_71 rfl s_nil (t71 (ho23.rd.mono (fun _ hz => (ms (ms (ms (ms (ms (mg hz)))))))) hx20) rfl (fun u19 S19 hR19 => ?_)
                      obtain ⟨v24, g20, rfl, rfl, ho36⟩ := hR19
                      refine o_rest ?_
                      refine o_T (y_nilck rfl) rfl ?_
                      refine o_T (y_fa fl_59_5 rfl) rfl ?_
                      obtain ⟨z9, hn5, hm⟩ := nm_s hm
                      have ho37 := ho32.to (l' := z9.nodes) (by subst hn5; rfl)
                      have ho38 := ho33.to (l' := z9.refs) (by subst hn5; rfl)
                      have ho39 := ho34.to (l' := z9.index) (by subst hn5; rfl)
                      have ho40 := ho36.to (l' := z9.work) (by subst hn5; rfl)
                      refine o_stN one_57 rfl rfl ho36.pl (Upd.z RepoM.u_work) (rs r0) (show (RepoM.enc (v1) (v2) (v19) (v24) z9) = _ from by subst hn5; rfl) ?_
                      refine o_nil0 rfl ?_
                      refine c_seq ?_
                      refine c_region ?_
                      refine o_T (y_move rfl) rfl ?_
                      refine o_L (y_assign rfl) rfl rfl ?_
                      refine o_L (y_assign rfl) rfl rfl ?_
                      refine o_nil0 rfl ?_
                      refine c_ret ?_
                      obtain ⟨rfl, rfl, rfl⟩ := pr3 hm
                      refine fun aX wX heX hsX => ret2 Tryz.results66 heX rfl rfl (s_get (ks k0) (s_get (ks k0) (s_get (ks k0) (s_get (ks (ks (ks k0))) (s_take (s_skip (s_skip (s_take s_nil)))))))) ?_
                      exact ⟨v1, _, v2, _, v19, _, v24, _, rfl, rfl, ho37, ho38, ho39, ho40⟩
                  · have hm := cd_f h10 hm
                    refine c_skip ?_
                    refine c_seq ?_
                    refine c_seq ?_
                    refine c_region ?_
                    refine o_T (y_move rfl) rfl ?_
                    refine o_T (y_nilck rfl) rfl ?_
                    refine o_T (y_fa fl_59_0 rfl) rfl ?_
                    refine o_ld one_55 rfl (ms m0) (At.got (At.refl.comp RepoM.a_nodes)) rfl ?_
                    refine o_T (y_lenR ho1.rd Tryz.underlying55 rfl) rfl ?_
                    refine o_T (y_geq rfl rfl) rfl ?_
                    refine o_nil1 140 rfl rfl ?_
                    refine c_cond rfl (fun h12 => ?_) (fun h12 => ?_)
                    · have hm := cd_t h12 hm
                      refine c_seq ?_
                      refine c_region ?_
                      refine o_L (y_assign rfl) rfl rfl ?_
                      refine o_L (y_assign rfl) rfl rfl ?_
                      refine o_nil0 rfl ?_
                      refine c_ret ?_
                      obtain ⟨rfl, rfl, rfl⟩ := pr3 hm
                      refine fun aX wX heX hsX => ret2 Tryz.results66 heX rfl rfl (s_skip (s_take (s_take (s_take (s_take (s_take (s_take s_nil))))))) ?_
                      exact ⟨v1, _, v2, _, v3, _, v4, _, rfl, rfl, ho1, ho2, ho3, ho4⟩
                    · have hm := cd_f h12 hm
                      refine c_skip ?_
                      refine c_seq ?_
                      refine c_region ?_
                      refine o_T (y_move rfl) rfl ?_
                      obtain ⟨c12, hx21, hm⟩ := bd1 hm
                      refine o_callC en_124 rfl s_nil (t124 (ho23.rd.mono (fun _ hz => (mg hz))) hx21) rfl (fun u20 S20 hR20 => ?_)
                      obtain ⟨rfl, rfl⟩ := hR20
                      refine o_rest ?_
                      refine o_T (y_mul rfl rfl rfl) rfl ?_
                      refine o_T (y_add rfl rfl rfl) rfl ?_
                      refine o_L (y_assign rfl) rfl rfl ?_
                      refine o_nil0 rfl ?_
                      refine c_seq ?_
                      refine c_seq ?_
                      refine c_region ?_
                      refine o_T (y_move rfl) rfl ?_
                      refine o_T (y_move rfl) rfl ?_
                      obtain ⟨c13, z10, hx22, hm⟩ := bd2 hm
                      refine o_callC en_125 rfl (s_skip (s_take (s_take (s_take (s_take (s_take s_nil)))))) (t125 ho1 ho2 ho3 ho4 hx22) rfl (fun u21 S21 hR21 => ?_)
                      obtain ⟨rfl, rfl, ho41, ho42, ho43, ho44⟩ := hR21
                      refine o_rest ?_
                      refine o_T (y_not rfl) rfl ?_
                      refine o_nil1 148 rfl rfl ?_
                      refine c_cond rfl (fun h13 => ?_) (fun h13 => ?_)
                      · have hm := cd_t h13 hm
                        refine c_seq ?_
                        refine c_region ?_
                        refine o_L (y_assign rfl) rfl rfl ?_
                        refine o_L (y_assign rfl) rfl rfl ?_
                        refine o_nil0 rfl ?_
                        refine c_ret ?_
                        obtain ⟨rfl, rfl, rfl⟩ := pr3 hm
                        refine fun aX wX heX hsX => ret2 Tryz.results66 heX rfl rfl (s_take (s_take (s_take (s_take (s_take (s_skip (s_take s_nil))))))) ?_
                        exact ⟨v1, _, v2, _, v3, _, v4, _, rfl, rfl, ho41, ho42, ho43, ho44⟩
                      · have hm := cd_f h13 hm
                        refine c_skip ?_
                        refine c_seq ?_
                        refine c_region ?_
                        refine o_T (y_move rfl) rfl ?_
                        refine o_T (y_nilck rfl) rfl ?_
                        refine o_T (y_fa fl_59_1 rfl) rfl ?_
                        refine o_ld one_3 rfl m0 (At.got (At.refl.comp RepoM.a_nxt)) rfl ?_
                        refine o_L (y_assign rfl) rfl rfl ?_
                        refine o_nil0 rfl ?_
                        refine c_seq ?_
                        refine c_region ?_
                        refine o_T (y_move rfl) rfl ?_
                        refine o_T (y_move rfl) rfl ?_
                        refine o_T (y_add rfl rfl rfl) rfl ?_
                        refine o_T (y_nilck rfl) rfl ?_
                        refine o_T (y_fa fl_59_1 rfl) rfl ?_
                        obtain ⟨z11, hn6, hm⟩ := nm_s hm
                        have ho45 := ho41.to (l' := z11.nodes) (by subst hn6; rfl)
                        have ho46 := ho42.to (l' := z11.refs) (by subst hn6; rfl)
                        have ho47 := ho43.to (l' := z11.index) (by subst hn6; rfl)
                        have ho48 := ho44.to (l' := z11.work) (by subst hn6; rfl)
                        refine o_stN one_3 rfl rfl rfl (Upd.z RepoM.u_nxt) r0 (show (RepoM.enc (v1) (v2) (v3) (v4) z11) = _ from by subst hn6; rfl) ?_
                        refine o_nil0 rfl ?_
                        refine c_seq ?_
                        refine c_region ?_
                        refine o_T (y_move rfl) rfl ?_
                        obtain ⟨l9, hx23, hm⟩ := bd1 hm
                        refine o_callC en_27 rfl s_nil (t27 (ho23.rd.mono (fun _ hz => (ms (ms (ms (ms (ms (mg hz)))))))) hx23) rfl (fun u22 S22 hR22 => ?_)
                        obtain ⟨v29, g25, rfl, rfl, ho49⟩ := hR22
                        refine o_rest ?_
                        refine o_L (y_assign rfl) rfl rfl ?_
                        refine o_nil0 rfl ?_
                        refine c_seq ?_
                        refine c_region ?_
                        refine o_T (y_move rfl) rfl ?_
                        refine o_T (y_move rfl) rfl ?_
                        refine o_T (y_nilck rfl) rfl ?_
                        refine o_T (y_fa fl_59_0 rfl) rfl ?_
                        refine o_ld one_55 rfl (ms m0) (At.got (At.refl.comp RepoM.a_nodes)) rfl ?_
                        refine o_T (y_move rfl) rfl ?_
                        refine o_T (y_move rfl) rfl ?_
                        refine o_T (y_move rfl) rfl ?_
                        refine o_T (y_move rfl) rfl ?_
                        refine o_lit2 (R := rInt) sz_65 rfl rfl rfl (show rInt.rd [] [.int .i64 c3] c3 from rfl) (show rInt.rd [] [.int .i64 x1.seq] x1.seq from rfl) rfl (fun b3 => ?_)
                        have ho50 := Own.two (R := rInt) (b := b3) (x := c3) (y := x1.seq) (u := .int .i64 c3) (v := .int .i64 x1.seq) rfl rfl
                        refine o_T (y_build st_93 rfl (fbU rfl Node.u_seq rfl rfl (fbU rfl Node.u_files (cells1 ho49.pl) rfl (fbU rfl Node.u_parents (cells1 ho50.pl) rfl (fbU rfl Node.u_msg rfl rfl fbU0))))) rfl ?_
                        refine o_bs1 sz_55 rfl rfl rfl rfl rfl rfl (fun b4 => ?_)
                        obtain ⟨l10, hx24, hm⟩ := bd hm
                        refine o_appR (R := rNode) (a := ({ seq := z10.nxt, files := l9, parents := ([c3, x1.seq] : List Int), msg := [109, 101, 114, 103, 101] } : Node)) sz_55 rfl rfl rfl rfl ho45 ⟨_, _, rfl, ho49.rd.mono (fun _ hz => mem_l hz), ho50.rd.mono (fun _ hz => mem_r hz)⟩ hx24 (Sel.m2 (s_get (ks (ks (ks (ks k0)))) (s_take (s_get (ks k0) (s_take s_nil))))) rfl (fun v30 g26 ho51 => ?_)
                        refine o_T (y_nilck rfl) rfl ?_
                        refine o_T (y_fa fl_59_0 rfl) rfl ?_
                        obtain ⟨z12, hn7, hm⟩ := nm_s hm
                        have ho52 := ho51.to (l' := z12.nodes) (by subst hn7; rfl)
                        have ho53 := ho46.to (l' := z12.refs) (by subst hn7; rfl)
                        have ho54 := ho47.to (l' := z12.index) (by subst hn7; rfl)
                        have ho55 := ho48.to (l' := z12.work) (by subst hn7; rfl)
                        refine o_stN one_55 rfl rfl ho51.pl (Upd.z RepoM.u_nodes) (rs r0) (show (RepoM.enc (v30) (v2) (v3) (v4) z12) = _ from by subst hn7; rfl) ?_
                        refine o_nil0 rfl ?_
                        refine c_seq ?_
                        refine c_region ?_
                        refine o_T (y_move rfl) rfl ?_
                        refine o_T (y_move rfl) rfl ?_
                        obtain ⟨z13, hx25, hm⟩ := bd1 hm
                        refine o_callC en_135 rfl (s_get (ks k0) (s_take (s_take (s_take (s_take s_nil))))) (t135 ho52 ho53 ho54 ho55 hx25) rfl (fun u23 S23 hR23 => ?_)
                        obtain ⟨v32, g28, rfl, rfl, ho56, ho57, ho58, ho59⟩ := hR23
                        refine o_rest ?_
                        refine o_nil0 rfl ?_
                        refine c_seq ?_
                        refine c_region ?_
                        refine o_T (y_move rfl) rfl ?_
                        refine o_T (y_move rfl) rfl ?_
                        refine o_T (y_nilck rfl) rfl ?_
                        refine o_T (y_fa fl_59_4 rfl) rfl ?_
                        obtain ⟨z14, hn8, hm⟩ := nm_s hm
                        have ho60 := ho56.to (l' := z14.nodes) (by subst hn8; rfl)
                        have ho61 := ho57.to (l' := z14.refs) (by subst hn8; rfl)
                        have ho62 := ho23.to (l' := z14.index) (by subst hn8; rfl)
                        have ho63 := ho59.to (l' := z14.work) (by subst hn8; rfl)
                        refine o_stN one_57 rfl rfl ho23.pl (Upd.z RepoM.u_index) r0 (show (RepoM.enc (v30) (v32) (v19) (v4) z14) = _ from by subst hn8; rfl) ?_
                        refine o_nil0 rfl ?_
                        refine c_seq ?_
                        refine c_region ?_
                        refine o_T (y_move rfl) rfl ?_
                        refine o_T (y_move rfl) rfl ?_
                        obtain ⟨l11, hx26, hm⟩ := bd1 hm
                        refine o_callC en_27 rfl s_nil (t27 (ho23.rd.mono (fun _ hz => (ms (ms (ms (ms (ms (mg hz)))))))) hx26) rfl (fun u24 S24 hR24 => ?_)
                        obtain ⟨v35, g31, rfl, rfl, ho64⟩ := hR24
                        refine o_rest ?_
                        refine o_T (y_nilck rfl) rfl ?_
                        refine o_T (y_fa fl_59_5 rfl) rfl ?_
                        obtain ⟨z15, hn9, hm⟩ := nm_s hm
                        have ho65 := ho60.to (l' := z15.nodes) (by subst hn9; rfl)
                        have ho66 := ho61.to (l' := z15.refs) (by subst hn9; rfl)
                        have ho67 := ho62.to (l' := z15.index) (by subst hn9; rfl)
                        have ho68 := ho64.to (l' := z15.work) (by subst hn9; rfl)
                        refine o_stN one_57 rfl rfl ho64.pl (Upd.z RepoM.u_work) (rs r0) (show (RepoM.enc (v30) (v32) (v19) (v35) z15) = _ from by subst hn9; rfl) ?_
                        refine o_nil0 rfl ?_
                        refine c_seq ?_
                        refine c_region ?_
                        refine o_L (y_assign rfl) rfl rfl ?_
                        refine o_L (y_assign rfl) rfl rfl ?_
                        refine o_nil0 rfl ?_
                        refine c_ret ?_
                        obtain ⟨rfl, rfl, rfl⟩ := pr3 hm
                        refine fun aX wX heX hsX => ret2 Tryz.results66 heX rfl rfl (s_get (ks k0) (s_get (ks k0) (s_get (ks k0) (s_get (ks (ks (ks k0))) (s_take (s_skip (s_skip (s_take s_nil)))))))) ?_
                        exact ⟨v30, _, v32, _, v19, _, v35, _, rfl, rfl, ho65, ho66, ho67, ho68⟩
end Go.Proofs.Qxb6500350aGreat
