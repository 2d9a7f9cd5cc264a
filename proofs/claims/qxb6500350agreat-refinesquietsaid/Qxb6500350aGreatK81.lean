/- PLAIN LAW: THE TOWER'S LAW (1): COMPARISONS; WHAT THE OBSERVERS SHOW. -/
import Derived.Test.Qxb6500350aGreatK80
import Derived.Test.Qxb6500350aGreatT14
import Derived.Test.Qxb6500350aGreatT18
set_option linter.unusedVariables false
set_option linter.unusedSimpArgs false
set_option maxHeartbeats 2000000
namespace Go.Proofs.Qxb6500350aGreat
open Go.Eng Go
section
variable {n : Nat}
theorem sameInts_ok {a b : List Int} (hn : 100000 ≤ n) (hl : a.length < 100000) : m81 n a b = some (decide (a = b)) := by
  refine Ok.eq ?_
  unfold m81
  refine Ok_ite (fun h => Ok.some' (decide_eq_false (fun e => h (by rw [e]))).symm) (fun h => Ok_flow ?_)
  have hlen : a.length = b.length := by omega
  unfold m81_w1
  refine Ok_pre1 a hl hn (fun pre => pre = b.take pre.length) (by simp) (fun Q lp pre x r hQ e hI hlt hget hw ih => ?_) (fun Q lp hQ hI => ?_)
  · refine Ok_ite (fun _ => Ok_ix (by omega) hlt (fun y hy => Ok_ix (by omega) (by omega) (fun z hz => ?_))) (fun h => absurd hlt h)
    obtain rfl := hget y hy
    rw [Int.toNat_natCast] at hy hz
    refine Ok_ite (fun hne => Ok_bs (Ok.some' (hQ _ (Ok.some' (decide_eq_false (fun e2 => ?_)).symm)))) (fun heq => ?_)
    · rw [e2, hz] at hy
      exact hne (Option.some.inj hy).symm
    · have heq : x = z := Classical.not_not.1 heq
      rw [hw]
      refine ih ?_
      rw [List.length_append, List.length_singleton, List.take_add_one, hz, ← heq, ← hI]; rfl
  · refine Ok_ite (fun h => absurd h (by omega)) (fun _ => Ok.some' (hQ _ (Ok.some' (decide_eq_true ?_).symm)))
    rw [hlen, List.take_length] at hI; exact hI
theorem sameChgs_ok {a b : List Chg} (hn : 100000 ≤ n) (hl : a.length < 100000) : m85 n a b = some (decide (a = b)) := by
  refine Ok.eq ?_
  unfold m85
  refine Ok_ite (fun h => Ok.some' (decide_eq_false (fun e => h (by rw [e]))).symm) (fun h => Ok_flow ?_)
  have hlen : a.length = b.length := by omega
  unfold m85_w1
  refine Ok_pre1 a hl hn (fun pre => pre = b.take pre.length) (by simp) (fun Q lp pre x r hQ e hI hlt hget hw ih => ?_) (fun Q lp hQ hI => ?_)
  · refine Ok_ite (fun _ => Ok_ix (by omega) hlt (fun y hy => Ok_ix (by omega) (by omega) (fun z hz => ?_))) (fun h => absurd hlt h)
    obtain rfl := hget y hy
    rw [Int.toNat_natCast] at hy hz
    refine Ok_iteN (fun hne => Ok_bs (Ok.some' (hQ _ (Ok.some' (decide_eq_false (fun e2 => ?_)).symm)))) (fun heq => ?_)
    · rw [e2, hz] at hy
      exact absurd (Option.some.inj hy).symm (of_decide_eq_false hne)
    · have heq : x = z := of_decide_eq_true heq
      rw [hw]
      refine ih ?_
      rw [List.length_append, List.length_singleton, List.take_add_one, hz, ← heq, ← hI]; rfl
  · refine Ok_ite (fun h => absurd h (by omega)) (fun _ => Ok.some' (hQ _ (Ok.some' (decide_eq_true ?_).symm)))
    rw [hlen, List.take_length] at hI; exact hI
theorem sameRefs_ok {a b : List Ref_} (hn : 100000 ≤ n) (hl : a.length < 100000) : m93 n a b = some (decide (a = b)) := by
  refine Ok.eq ?_
  unfold m93
  refine Ok_ite (fun h => Ok.some' (decide_eq_false (fun e => h (by rw [e]))).symm) (fun h => Ok_flow ?_)
  have hlen : a.length = b.length := by omega
  unfold m93_w1
  refine Ok_pre1 a hl hn (fun pre => pre = b.take pre.length) (by simp) (fun Q lp pre x r hQ e hI hlt hget hw ih => ?_) (fun Q lp hQ hI => ?_)
  · refine Ok_ite (fun _ => Ok_ix (by omega) hlt (fun y hy => Ok_ix (by omega) (by omega) (fun z hz => ?_))) (fun h => absurd hlt h)
    obtain rfl := hget y hy
    rw [Int.toNat_natCast] at hy hz
    refine Ok_iteN (fun hne => Ok_bs (Ok.some' (hQ _ (Ok.some' (decide_eq_false (fun e2 => ?_)).symm)))) (fun heq => ?_)
    · rw [e2, hz] at hy
      exact absurd (Option.some.inj hy).symm (of_decide_eq_false hne)
    · have heq : x = z := of_decide_eq_true heq
      rw [hw]
      refine ih ?_
      rw [List.length_append, List.length_singleton, List.take_add_one, hz, ← heq, ← hI]; rfl
  · refine Ok_ite (fun h => absurd h (by omega)) (fun _ => Ok.some' (hQ _ (Ok.some' (decide_eq_true ?_).symm)))
    rw [hlen, List.take_length] at hI; exact hI
theorem sameHunks_ok {a b : List Hunk} (hn : 100000 ≤ n) (hl : a.length < 100000) (hs : ∀ h, h ∈ a → h.del.length < 100000 ∧ h.ins.length < 100000) : m104 n a b = some (decide (a = b)) := by
  refine Ok.eq ?_
  unfold m104
  refine Ok_ite (fun h => Ok.some' (decide_eq_false (fun e => h (by rw [e]))).symm) (fun h => Ok_flow ?_)
  have hlen : a.length = b.length := by omega
  unfold m104_w1
  refine Ok_pre1 a hl hn (fun pre => pre = b.take pre.length) (by simp) (fun Q lp pre x r hQ e hI hlt hget hw ih => ?_) (fun Q lp hQ hI => ?_)
  · have hx := hs x (by rw [e]; simp)
    have hax : a[pre.length]? = some x := by rw [e]; simp
    obtain ⟨z, hz⟩ : ∃ z, b[pre.length]? = some z := ⟨b[pre.length], List.getElem?_eq_getElem (by omega)⟩
    have ra : ∀ {τ : Type} {P : τ → Prop} {F : Hunk → Option τ}, Ok (F x) P → Ok (Option.bind (ixL a (pre.length : Int)) F) P := fun kk => Ok_ix (by omega) hlt (fun y hy => by rw [← hget y hy]; exact kk)
    have rb : ∀ {τ : Type} {P : τ → Prop} {F : Hunk → Option τ}, Ok (F z) P → Ok (Option.bind (ixL b (pre.length : Int)) F) P := fun kk => Ok_ix (by omega) (by omega) (fun y hy => by rw [Int.toNat_natCast, hz] at hy; rw [← Option.some.inj hy]; exact kk)
    have hne : x ≠ z → ¬ a = b := fun hh e2 => by rw [e2, hz] at hax; exact hh (Option.some.inj hax).symm
    refine Ok_ite (fun _ => ra (rb (Ok_ite (fun h1 => Ok_bs (Ok.some' (hQ _ (Ok.some' (decide_eq_false (hne (fun e2 => h1 (by rw [e2])))).symm)))) (fun h1 => ra (rb (Ok_cl1 (sameLines_ok hn hx.1) ?_)))))) (fun h => absurd hlt h)
    refine Ok_iteN (fun h2 => Ok_bs (Ok.some' (hQ _ (Ok.some' (decide_eq_false (hne (fun e2 => of_decide_eq_false h2 (by rw [e2])))).symm)))) (fun h2 => ra (rb (Ok_cl1 (sameLines_ok hn hx.2) ?_)))
    refine Ok_iteN (fun h3 => Ok_bs (Ok.some' (hQ _ (Ok.some' (decide_eq_false (hne (fun e2 => of_decide_eq_false h3 (by rw [e2])))).symm)))) (fun h3 => ?_)
    have heq : x = z := by
      have h1 := Classical.not_not.1 h1
      have h2 := of_decide_eq_true h2
      have h3 := of_decide_eq_true h3
      cases x; cases z; simp at h1 h2 h3; simp [h1, h2, h3]
    rw [hw]
    refine ih ?_
    rw [List.length_append, List.length_singleton, List.take_add_one, hz, ← heq, ← hI]; rfl
  · refine Ok_ite (fun h => absurd h (by omega)) (fun _ => Ok.some' (hQ _ (Ok.some' (decide_eq_true ?_).symm)))
    rw [hlen, List.take_length] at hI; exact hI
theorem sameNode_ok {a b : Node} (hn : 100000 ≤ n) (hf : a.files.length < 100000) (hp : a.parents.length < 100000) : m101 n a b = some (decide (a = b)) := by
  refine Ok.eq ?_
  unfold m101
  refine Ok_cond (fun e => Ok.some' (decide_eq_false (fun e2 => ?_)).symm) (fun e => ?_)
  · subst e2; simp at e
  have e : a.seq = b.seq ∧ a.msg = b.msg := by simpa using e
  refine Ok_cl1 (sameFiles_ok hn hf) (Ok_iteN (fun h => Ok.some' (decide_eq_false (fun e2 => of_decide_eq_false h (by rw [e2]))).symm) (fun h => Ok_cl1 (sameInts_ok hn hp) (Ok.some' ?_)))
  have h := of_decide_eq_true h
  refine decide_eq_decide.2 ⟨fun h2 => ?_, fun e2 => by rw [e2]⟩
  cases a; cases b; simp at e h h2; simp [e, h, h2]
theorem hunkR_len {a b : List Str} : ∀ (ms : List Int) (i p q : Nat), (hunkR a b ms i p q).length ≤ ms.length + 1
  | [], i, p, q => by unfold hunkR; split <;> simp
  | m :: ms, i, p, q => by
    have h1 := hunkR_len (a := a) (b := b) ms (i + 1) (i + 1) (m.toNat + 1)
    have h2 := hunkR_len (a := a) (b := b) ms (i + 1) p q
    unfold hunkR
    split
    · rw [List.length_append, List.length_cons]
      split <;> simp <;> omega
    · rw [List.length_cons]; omega
theorem cutL_le {α : Type} {l : List α} {p q : Nat} : (cutL l p q).length ≤ l.length := by unfold cutL; rw [List.length_take, List.length_drop]; omega
theorem hunkR_mem {a b : List Str} {h : Hunk} : ∀ (ms : List Int) (i p q : Nat), h ∈ hunkR a b ms i p q → h.del.length ≤ a.length ∧ h.ins.length ≤ b.length
  | [], i, p, q, hh => by
    unfold hunkR at hh
    split at hh
    · rw [List.mem_singleton.1 hh]; exact ⟨cutL_le, cutL_le⟩
    · cases hh
  | m :: ms, i, p, q, hh => by
    unfold hunkR at hh
    split at hh
    · rcases List.mem_append.1 hh with hh | hh
      · split at hh
        · rw [List.mem_singleton.1 hh]; exact ⟨cutL_le, cutL_le⟩
        · cases hh
      · exact hunkR_mem ms _ _ _ hh
    · exact hunkR_mem ms _ _ _ hh
theorem diffH_b {a b : Str} (hn : 100000 ≤ n) (ha : a.length ≤ 1024) (hb : b.length ≤ 1024) : (diffH n a b).length < 100000 ∧ ∀ h, h ∈ diffH n a b → h.del.length < 100000 ∧ h.ins.length < 100000 := by
  have la := (lin_of hn ha).len
  have lb := (lin_of hn hb).len
  have hw := (walkM_ok (E := eqE (lin n a) (lin n b)) (na := (lin n a).length) (nb := (lin n b).length)).len
  refine ⟨?_, fun h hh => ?_⟩
  · have := hunkR_len (a := lin n a) (b := lin n b) (walkM (eqE (lin n a) (lin n b)) (lin n a).length (lin n b).length 0 0) 0 0 0
    unfold diffH; omega
  · have := hunkR_mem _ _ _ _ hh
    omega
end
end Go.Proofs.Qxb6500350aGreat
