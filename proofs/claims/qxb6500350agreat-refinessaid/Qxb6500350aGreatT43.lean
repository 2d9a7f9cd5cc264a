/- MADE BY PROGRAM (tools350/mir.py): mirror and walk. -/
import Derived.Test.Qxb6500350aGreatF2
import Derived.Test.Qxb6500350aGreatT106
import Derived.Test.Qxb6500350aGreatT107
import Derived.Test.Qxb6500350aGreatT108
import Derived.Test.Qxb6500350aGreatT109
import Derived.Test.Qxb6500350aGreatT110
import Derived.Test.Qxb6500350aGreatT111
set_option linter.unusedVariables false
set_option linter.unusedSimpArgs false
set_option maxRecDepth 20000
set_option maxHeartbeats 4000000
namespace Go.Proofs.Qxb6500350aGreat
open Go.Eng

/- towerlaw.Sound -/
def m43 (n : Nat) (d : Dev) (g : Graph) (s : Store) (r : RepoR) (t : Trees) (x : Index) (b_ : Below) : Option (Bool) :=
ob1 (m106 n s d) fun c1 =>
cond (!c1) (
some false) (
ob1 (m107 n t s d) fun c2 =>
cond (!c2) (
some false) (
ob1 (m108 n g t s d) fun c3 =>
cond (!c3) (
some false) (
ob1 (m109 n x) fun c4 =>
cond (!c4) (
some false) (
ob1 (m110 n ) fun c5 =>
cond (!c5) (
some false) (
ob1 (m111 n r g t s d x) fun c6 =>
some c6)))))
theorem t43 {n : Nat} {C : List Chunk} {rc1 : Bool} {b_ : Below} {b1 : Nat} {d : Dev} {v1 : Value} {g1 : List Chunk} {v2 : Value} {g2 : List Chunk} {v3 : Value} {g3 : List Chunk} {v4 : Value} {g4 : List Chunk} {b2 : Nat} {s : Store} {b3 : Nat} {t : Trees} {b4 : Nat} {g : Graph} {b5 : Nat} {x : Index} {q1 : Option Addr} {b6 : Nat} {r : RepoR} {q2 : Option Addr} (ho1 : Own rByte v1 d.blk g1) (ho2 : Own rByte v2 d.base g2) (ho3 : Own rInt v3 d.at_ g3) (ho4 : Own rByte v4 d.data g4)  (hm : m43 n d g s r t x b_ = some rc1) : Trip Tryz.prog 43 #[.agg (Below.enc (.pointer (some ⟨b1, 0, none⟩)) (.pointer (some ⟨b2, 0, none⟩)) (.pointer (some ⟨b3, 0, none⟩)) (.pointer (some ⟨b4, 0, none⟩)) (.pointer (some ⟨b5, 0, none⟩)) ((.pointer q1)) (.pointer (some ⟨b6, 0, none⟩)) b_).toArray] ([[(b1, .cells (Dev.enc (v1) (v2) (v3) (v4) d).toArray 85 (0, 0))], g1, g2, g3, g4, [(b4, .cells (Graph.enc (.pointer (some ⟨b3, 0, none⟩)) g).toArray 179 (0, 0))], [(b2, .cells (Store.enc (.pointer (some ⟨b1, 0, none⟩)) s).toArray 126 (0, 0))], [(b6, .cells (RepoR.enc (.pointer (some ⟨b4, 0, none⟩)) (.pointer (some ⟨b5, 0, none⟩)) ((.pointer q2)) r).toArray 130 (0, 0))], [(b3, .cells (Trees.enc (.pointer (some ⟨b2, 0, none⟩)) t).toArray 169 (0, 0))], [(b5, .cells (Index.enc x).toArray 184 (0, 0))]] ++ [C]) (fun u S' => .bool rc1 = u ∧ S' = [[(b1, .cells (Dev.enc (v1) (v2) (v3) (v4) d).toArray 85 (0, 0))], g1, g2, g3, g4, [(b4, .cells (Graph.enc (.pointer (some ⟨b3, 0, none⟩)) g).toArray 179 (0, 0))], [(b2, .cells (Store.enc (.pointer (some ⟨b1, 0, none⟩)) s).toArray 126 (0, 0))], [(b6, .cells (RepoR.enc (.pointer (some ⟨b4, 0, none⟩)) (.pointer (some ⟨b5, 0, none⟩)) ((.pointer q2)) r).toArray 130 (0, 0))], [(b3, .cells (Trees.enc (.pointer (some ⟨b2, 0, none⟩)) t).toArray 169 (0, 0))], [(b5, .cells (Index.enc x).toArray 184 (0, 0))]] ++ [C]) := by
  refine fn_entry (args := [.agg (Below.enc (.pointer (some ⟨b1, 0, none⟩)) (.pointer (some ⟨b2, 0, none⟩)) (.pointer (some ⟨b3, 0, none⟩)) (.pointer (some ⟨b4, 0, none⟩)) (.pointer (some ⟨b5, 0, none⟩)) ((.pointer q1)) (.pointer (some ⟨b6, 0, none⟩)) b_).toArray]) Tryz.func43 rfl Tryz.ntmps43 rfl (fun w0 => ?_)
  refine c_seq ?_
  refine c_region ?_
  refine o_box rfl rfl rfl rfl (fun b7 => ?_)
  refine o_L (y_assign rfl) rfl rfl ?_
  refine o_nil0 rfl ?_
  refine c_seq ?_
  refine c_seq ?_
  refine c_region ?_
  refine o_T (y_fa fl_37_1 rfl) rfl ?_
  refine o_T (y_fa fl_35_0 rfl) rfl ?_
  refine o_ld one_28 rfl m0 (At.got ((At.refl.comp Below.a_w).comp Tower.a_o)) rfl ?_
  obtain ⟨c1, hx1, hm⟩ := bd1 hm
  refine o_callC en_106 rfl (s_skip (s_get (ks (ks (ks (ks (ks (ks k0)))))) (s_take (s_take (s_take (s_take (s_take s_nil))))))) (t106 ho1 ho2 ho3 ho4 hx1) rfl (fun u1 S1 hR1 => ?_)
  obtain ⟨rfl, rfl⟩ := hR1
  refine o_rest ?_
  refine o_T (y_not rfl) rfl ?_
  refine o_nil1 7 rfl rfl ?_
  refine c_cond rfl (fun h1 => ?_) (fun h1 => ?_)
  · have hm := cd_t h1 hm
    refine c_seq ?_
    refine c_region ?_
    refine o_L (y_assign rfl) rfl rfl ?_
    refine o_nil0 rfl ?_
    refine c_ret ?_
    obtain rfl := p1 hm
    refine fun aX wX heX hsX => ret1 Tryz.results43 heX rfl (s_get (ks k0) (s_get (ks k0) (s_get (ks k0) (s_get (ks k0) (s_get (ks k0) (s_get (ks (ks k0)) (s_take (s_skip (s_take (s_take (s_take (s_take s_nil)))))))))))) ?_
    exact ⟨rfl, rfl⟩
  · have hm := cd_f h1 hm
    refine c_skip ?_
    refine c_seq ?_
    refine c_seq ?_
    refine c_region ?_
    refine o_T (y_fa fl_37_1 rfl) rfl ?_
    refine o_T (y_fa fl_35_1 rfl) rfl ?_
    refine o_ld one_29 rfl (ms (ms (ms (ms (ms (ms m0)))))) (At.got ((At.refl.comp Below.a_w).comp Tower.a_t)) rfl ?_
    obtain ⟨c2, hx2, hm⟩ := bd1 hm
    refine o_callC en_107 rfl (s_get (ks (ks (ks (ks (ks (ks (ks (ks (ks k0))))))))) (s_take (s_take (s_take (s_take (s_take (s_take s_nil))))))) (t107 ho1 ho2 ho3 ho4 hx2) rfl (fun u2 S2 hR2 => ?_)
    obtain ⟨rfl, rfl⟩ := hR2
    refine o_rest ?_
    refine o_T (y_not rfl) rfl ?_
    refine o_nil1 12 rfl rfl ?_
    refine c_cond rfl (fun h2 => ?_) (fun h2 => ?_)
    · have hm := cd_t h2 hm
      refine c_seq ?_
      refine c_region ?_
      refine o_L (y_assign rfl) rfl rfl ?_
      refine o_nil0 rfl ?_
      refine c_ret ?_
      obtain rfl := p1 hm
      refine fun aX wX heX hsX => ret1 Tryz.results43 heX rfl (s_get (ks (ks k0)) (s_get (ks (ks k0)) (s_get (ks (ks k0)) (s_get (ks (ks k0)) (s_get (ks (ks k0)) (s_get (ks (ks (ks k0))) (s_get (ks k0) (s_get (ks (ks k0)) (s_take (s_skip (s_take (s_take s_nil)))))))))))) ?_
      exact ⟨rfl, rfl⟩
    · have hm := cd_f h2 hm
      refine c_skip ?_
      refine c_seq ?_
      refine c_seq ?_
      refine c_region ?_
      refine o_T (y_fa fl_37_1 rfl) rfl ?_
      refine o_T (y_fa fl_35_2 rfl) rfl ?_
      refine o_ld one_30 rfl (ms (ms (ms (ms (ms (ms (ms m0))))))) (At.got ((At.refl.comp Below.a_w).comp Tower.a_g)) rfl ?_
      obtain ⟨c3, hx3, hm⟩ := bd1 hm
      refine o_callC en_108 rfl (s_get (ks (ks (ks (ks (ks (ks (ks (ks k0)))))))) (s_take (s_take (s_take (s_take (s_take (s_take (s_take s_nil)))))))) (t108 ho1 ho2 ho3 ho4 hx3) rfl (fun u3 S3 hR3 => ?_)
      obtain ⟨rfl, rfl⟩ := hR3
      refine o_rest ?_
      refine o_T (y_not rfl) rfl ?_
      refine o_nil1 17 rfl rfl ?_
      refine c_cond rfl (fun h3 => ?_) (fun h3 => ?_)
      · have hm := cd_t h3 hm
        refine c_seq ?_
        refine c_region ?_
        refine o_L (y_assign rfl) rfl rfl ?_
        refine o_nil0 rfl ?_
        refine c_ret ?_
        obtain rfl := p1 hm
        refine fun aX wX heX hsX => ret1 Tryz.results43 heX rfl (s_get (ks (ks (ks k0))) (s_get (ks (ks (ks k0))) (s_get (ks (ks (ks k0))) (s_get (ks (ks (ks k0))) (s_get (ks (ks (ks k0))) (s_take (s_get (ks k0) (s_get (ks (ks k0)) (s_take (s_skip (s_take (s_take s_nil)))))))))))) ?_
        exact ⟨rfl, rfl⟩
      · have hm := cd_f h3 hm
        refine c_skip ?_
        refine c_seq ?_
        refine c_seq ?_
        refine c_region ?_
        refine o_T (y_fa fl_37_1 rfl) rfl ?_
        refine o_T (y_fa fl_35_3 rfl) rfl ?_
        refine o_ld one_31 rfl (ms (ms (ms (ms (ms (ms (ms (ms m0)))))))) (At.got ((At.refl.comp Below.a_w).comp Tower.a_x)) rfl ?_
        obtain ⟨c4, hx4, hm⟩ := bd1 hm
        refine o_callC en_109 rfl (s_skip (s_skip (s_skip (s_skip (s_skip (s_skip (s_skip (s_skip (s_skip (s_skip (s_take s_nil))))))))))) (t109 hx4) rfl (fun u4 S4 hR4 => ?_)
        obtain ⟨rfl, rfl⟩ := hR4
        refine o_rest ?_
        refine o_T (y_not rfl) rfl ?_
        refine o_nil1 22 rfl rfl ?_
        refine c_cond rfl (fun h4 => ?_) (fun h4 => ?_)
        · have hm := cd_t h4 hm
          refine c_seq ?_
          refine c_region ?_
          refine o_L (y_assign rfl) rfl rfl ?_
          refine o_nil0 rfl ?_
          refine c_ret ?_
          obtain rfl := p1 hm
          refine fun aX wX heX hsX => ret1 Tryz.results43 heX rfl (s_get (ks (ks (ks (ks k0)))) (s_get (ks (ks (ks (ks k0)))) (s_get (ks (ks (ks (ks k0)))) (s_get (ks (ks (ks (ks k0)))) (s_get (ks (ks (ks (ks k0)))) (s_get (ks k0) (s_get (ks (ks k0)) (s_get (ks (ks (ks k0))) (s_get (ks k0) (s_take (s_skip (s_take s_nil)))))))))))) ?_
          exact ⟨rfl, rfl⟩
        · have hm := cd_f h4 hm
          refine c_skip ?_
          refine c_seq ?_
          refine c_seq ?_
          refine c_region ?_
          refine o_T (y_fa fl_37_1 rfl) rfl ?_
          refine o_T (y_fa fl_35_4 rfl) rfl ?_
          refine o_ld one_32 rfl (ms (ms (ms (ms (ms (ms (ms (ms (ms m0))))))))) (At.got ((At.refl.comp Below.a_w).comp Tower.a_e)) rfl ?_
          obtain ⟨c5, hx5, hm⟩ := bd1 hm
          refine o_callC en_110 rfl s_nil (t110 hx5) rfl (fun u5 S5 hR5 => ?_)
          obtain ⟨rfl, rfl⟩ := hR5
          refine o_rest ?_
          refine o_T (y_not rfl) rfl ?_
          refine o_nil1 27 rfl rfl ?_
          refine c_cond rfl (fun h5 => ?_) (fun h5 => ?_)
          · have hm := cd_t h5 hm
            refine c_seq ?_
            refine c_region ?_
            refine o_L (y_assign rfl) rfl rfl ?_
            refine o_nil0 rfl ?_
            refine c_ret ?_
            obtain rfl := p1 hm
            refine fun aX wX heX hsX => ret1 Tryz.results43 heX rfl (s_get (ks (ks (ks (ks k0)))) (s_get (ks (ks (ks (ks k0)))) (s_get (ks (ks (ks (ks k0)))) (s_get (ks (ks (ks (ks k0)))) (s_get (ks (ks (ks (ks k0)))) (s_get (ks k0) (s_get (ks (ks k0)) (s_get (ks (ks (ks k0))) (s_get (ks k0) (s_take (s_skip (s_take s_nil)))))))))))) ?_
            exact ⟨rfl, rfl⟩
          · have hm := cd_f h5 hm
            refine c_skip ?_
            refine c_seq ?_
            refine c_region ?_
            refine o_T (y_fa fl_37_1 rfl) rfl ?_
            refine o_T (y_fa fl_35_5 rfl) rfl ?_
            refine o_ld one_33 rfl (ms (ms (ms (ms (ms (ms (ms (ms (ms m0))))))))) (At.got ((At.refl.comp Below.a_w).comp Tower.a_r)) rfl ?_
            obtain ⟨c6, hx6, hm⟩ := bd1 hm
            refine o_callC en_111 rfl (s_get (ks (ks (ks (ks (ks (ks (ks (ks (ks (ks k0)))))))))) (s_get (ks k0) (s_get (ks k0) (s_get (ks k0) (s_get (ks k0) (s_get (ks k0) (s_get (ks k0) (s_get (ks k0) (s_get (ks k0) (s_take s_nil)))))))))) (t111 ho1 ho2 ho3 ho4 hx6) rfl (fun u6 S6 hR6 => ?_)
            obtain ⟨rfl, rfl⟩ := hR6
            refine o_rest ?_
            refine o_L (y_assign rfl) rfl rfl ?_
            refine o_nil0 rfl ?_
            refine c_ret ?_
            obtain rfl := p1 hm
            refine fun aX wX heX hsX => ret1 Tryz.results43 heX rfl (s_get (ks (ks (ks (ks k0)))) (s_get (ks (ks (ks (ks k0)))) (s_get (ks (ks (ks (ks k0)))) (s_get (ks (ks (ks (ks k0)))) (s_get (ks (ks (ks (ks k0)))) (s_get (ks k0) (s_get (ks (ks k0)) (s_take (s_take (s_take (s_skip (s_take s_nil)))))))))))) ?_
            exact ⟨rfl, rfl⟩
end Go.Proofs.Qxb6500350aGreat
