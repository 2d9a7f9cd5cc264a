/- The world as NewWorld lays it. -/
import Derived.Test.Qxb6500351aGreatMd30
import Derived.Test.Qxb6500351aGreatW44
set_option linter.unusedVariables false
set_option linter.unusedSimpArgs false
namespace Go.Proofs.Qxb6500351aGreat
open Go.Eng
def HP.lay (q : HP) (b : Nat) : HP := ⟨b, q.l, q.p, q.t, q.b, q.s, q.r⟩
def hN (q : HP) (a : Int) : List Chunk := hG q (Lk.mk a (fun _ => 0) 0) (fun _ => 0) (Hst.init a)
theorem hN_lay (q : HP) (a : Int) (b : Nat) : [(b, .cells (Hs.mk a 0 0 (fun _ => 0) (ptr q.l) (ptr q.p) (fun i => ptr (q.b i)) (ptr q.t)).enc 111 (0, 0))] ++ ([(q.l, .cells (Lk.mk a (fun _ => 0) 0).enc 146 (0, 0))] ++ ([(q.p, .cells (Ipt.init a).enc 153 (0, 0))] ++ ([(q.t, .cells Tb.init.enc 159 (0, 0))] ++ q.csG (fun _ => Conn.zero)))) = hN (q.lay b) a := rfl
theorem hN_new (q : HP) (a : Int) : [(q.h, .cells (q.hs (Hst.init a) (fun _ => 0)).enc 111 (0, 0))] ++ ([(q.l, .cells (Lk.mk a (fun _ => 0) 0).enc 146 (0, 0))] ++ ([(q.p, .cells (Ipt.init a).enc 153 (0, 0))] ++ ([(q.t, .cells Tb.init.enc 159 (0, 0))] ++ q.csG (fun _ => Conn.zero)))) = hN q a := rfl
def HsN (n : Nat) (hv : Nat → Value) (bv : Nat → Bl) (g : List Chunk) : Prop := ∃ P : Nat → HP, (∀ i, i < n → hv i = (P i).v ∧ bv i = (P i).bl) ∧ g = ((List.range n).map fun i => hN (P i) ((i : Int) + 1)).flatten
theorem HsN.zero {hv : Nat → Value} {bv : Nat → Bl} : HsN 0 hv bv [] := ⟨fun _ => ⟨0, 0, 0, 0, fun _ => 0, fun _ => 0, fun _ => 0⟩, fun i h => absurd h (Nat.not_lt_zero i), rfl⟩
theorem HsN.step {n : Nat} {hv : Nat → Value} {bv : Nat → Bl} {g : List Chunk} (h : HsN n hv bv g) (q : HP) : HsN (n + 1) (upA hv n q.v) (upA bv n q.bl) (g ++ hN q ((n : Int) + 1)) := by
  obtain ⟨P, h1, rfl⟩ := h
  refine ⟨upA P n q, fun i hi => ?_, ?_⟩
  · unfold upA
    by_cases e : i = n
    · rw [if_pos e, if_pos e, if_pos e]; exact ⟨rfl, rfl⟩
    · rw [if_neg e, if_neg e, if_neg e]; exact h1 i (by omega)
  · rw [List.range_succ, List.map_append, List.flatten_append]
    congr 1
    · congr 1
      refine List.map_congr_left fun i hi => ?_
      have := List.mem_range.1 hi
      unfold upA
      rw [if_neg (by omega)]
    · simp [upA]
theorem HsN.full {hv : Nat → Value} {bv : Nat → Bl} {g : List Chunk} (h : HsN 3 hv bv g) : HsG Wrld.init.H hv bv g := by
  obtain ⟨P, h1, hg⟩ := h
  refine ⟨P, h1, (fun i : Nat => Lk.mk ((i : Int) + 1) (fun _ => 0) 0), (fun (_ _ : Nat) => (0 : Int)), ?_, ?_⟩
  · intro i hi
    show ((i : Int) + 1) = ((i : Int) + 1)
    rfl
  · have e : ((List.range 3).map fun i : Nat => hN (P i) ((i : Int) + 1)).flatten = hN (P 0) (((0 : Nat) : Int) + 1) ++ (hN (P 1) (((1 : Nat) : Int) + 1) ++ hN (P 2) (((2 : Nat) : Int) + 1)) := by
      show hN (P 0) (((0 : Nat) : Int) + 1) ++ (hN (P 1) (((1 : Nat) : Int) + 1) ++ (hN (P 2) (((2 : Nat) : Int) + 1) ++ [])) = _
      rw [List.append_nil]
    rw [hg, e]
    unfold hN
    rfl
def wd0 (hv : Nat → Value) (bv : Nat → Bl) (qv : Nat → Value) (q : Bool) (bw bn : Nat) : Wd := ⟨hv, bv, qv, q, 0, ptr bw, ptr bn, fun _ => 0, fun _ => .slice none 0 0, fun _ => 0, fun _ => 0, 0, false, 0, .slice none 0 0, .slice none 0 0, .slice none 0 0, .slice none 0 0⟩
def V0 : WV := ⟨fun _ => .slice none 0 0, .slice none 0 0, .slice none 0 0, .slice none 0 0, .slice none 0 0, 0⟩
theorem wd0_eq (b bw bn : Nat) (hv qv : Nat → Value) (bv qb : Nat → Bl) (q : Bool) : wd0 hv bv qv q bw bn = (⟨b, hv, bv, qv, qb, bw, bn⟩ : WA).wd q Wrld.init V0 := by unfold wd0 V0 Wrld.init; rfl
theorem Wd.S_b0 {s : Wd} {y : Bl} : setAll s.enc 3 y.enc.toList = ({ s with b := upA s.b 0 y } : Wd).enc := by kernel_rfl
theorem Wd.S_b1 {s : Wd} {y : Bl} : setAll s.enc 10 y.enc.toList = ({ s with b := upA s.b 1 y } : Wd).enc := by kernel_rfl
theorem Wd.S_b2 {s : Wd} {y : Bl} : setAll s.enc 17 y.enc.toList = ({ s with b := upA s.b 2 y } : Wd).enc := by kernel_rfl
theorem Wd.S_b {s : Wd} {y : Bl} {o : Nat} (i : Nat) (hi : i < 3) (ho : o = 3 + i * 7) : setAll s.enc o y.enc.toList = ({ s with b := upA s.b i y } : Wd).enc := by
  have qi : i = 0 ∨ i = 1 ∨ i = 2 := by omega
  rcases qi with rfl | rfl | rfl <;> subst ho
  · exact Wd.S_b0
  · exact Wd.S_b1
  · exact Wd.S_b2
theorem Wd.E_b {s : Wd} {o o2 : Nat} (i : Nat) (hi : i < 3) (ho : o = 3 + i * 7) (ho2 : o2 = o + 7) : s.enc.extract o o2 = (s.b i).enc := by
  have qi : i = 0 ∨ i = 1 ∨ i = 2 := by omega
  subst ho2
  rcases qi with rfl | rfl | rfl <;> subst ho <;> rfl
theorem SnG.nil : SnG Wrld.init.seen V0.seen [] := ⟨fun _ => [], fun i _ => ⟨by simp [Wrld.init], .inl ⟨rfl, rfl, rfl⟩⟩, rfl⟩
theorem wg_init {b bw bn : Nat} {hv qv : Nat → Value} {bv qb : Nat → Bl} {q : Bool} {gh gq gw gn : List Chunk} (h : HsN 3 hv bv gh) (hq : q = true → HsN 3 qv qb gq) (hw : WrG bw [] gw) (hn : NtG bn [] (fun _ => 0) gn) :
    WG ⟨b, hv, bv, qv, qb, bw, bn⟩ q Wrld.init V0 0 gh gq gw gn [] [] [] [] [] :=
  ⟨h.full, fun e => (hq e).full, hw, hn, SnG.nil, LstN.nil, PI.nil, PO.nil, PM.nil⟩
theorem c_hs {c : Cx} {x : Code} {e : Go.Eng.Env} {R : SH} {Q : Exit → _root_.Go.Eng.Env → SH → Prop} {h l p t s gh : List Chunk} (k : OkC c x e ((gh ++ (h ++ (l ++ (p ++ (t ++ s))))) :: R) Q) : OkC c x e (h :: l :: p :: t :: s :: gh :: R) Q := by
  refine c_perm ?_ k
  simp only [List.flatten_cons]
  have e : (h ++ (l ++ (p ++ (t ++ (s ++ (gh ++ R.flatten))))) : List Chunk) = (h ++ (l ++ (p ++ (t ++ s)))) ++ (gh ++ R.flatten) := by simp
  rw [e, List.append_assoc gh]
  exact perm_mid _ _ _
theorem c_emp {c : Cx} {x : Code} {e : _root_.Go.Eng.Env} {R : SH} {Q : Exit → _root_.Go.Eng.Env → SH → Prop} (k : OkC c x e ([] :: [] :: R) Q) : OkC c x e R Q := c_perm (by simp) k
theorem sel_ten {w h q a n : List Chunk} {F : SH} : Sel (w :: h :: q :: a :: n :: F) [w, h, q, a, n, [], [], [], [], []] F := by
  unfold Sel; simp
end Go.Proofs.Qxb6500351aGreat
