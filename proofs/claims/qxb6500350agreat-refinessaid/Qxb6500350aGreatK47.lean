/- PLAIN LAW: LOOPS OVER LISTS; COPIES; REFS OF THE MODEL. -/
import Derived.Test.Qxb6500350aGreatK46
import Derived.Test.Qxb6500350aGreatT25
import Derived.Test.Qxb6500350aGreatT26
import Derived.Test.Qxb6500350aGreatT141
import Derived.Test.Qxb6500350aGreatT143
import Derived.Test.Qxb6500350aGreatT140
import Derived.Test.Qxb6500350aGreatT240
set_option linter.unusedVariables false
set_option linter.unusedSimpArgs false
set_option maxHeartbeats 1000000
namespace Go.Proofs.Qxb6500350aGreat
open Go.Eng Go
section
variable {α β γ τ : Type} {P : τ → Prop} {n : Nat}
theorem pre_facts {xs pre r : List α} {x : α} (h : xs = pre ++ x :: r) : (pre.length : Int) < xs.length ∧ ∀ y, xs[(pre.length : Int).toNat]? = some y → x = y := by
  subst h
  refine ⟨by simp; omega, fun y hy => ?_⟩
  rw [Int.toNat_natCast, List.getElem?_append_right (Nat.le_refl _), Nat.sub_self] at hy
  simpa using hy
theorem Ok_pre1 {F : (Int → Option τ) → Int → Option τ} (xs : List α) (hxs : xs.length < 100000) (hn : 100000 ≤ n) (I : List α → Prop) (h0 : I [])
    (step : ∀ (Q : τ → Prop) lp (pre : List α) (x : α) (r : List α), (∀ p, P p → Q p) → xs = pre ++ x :: r → I pre → (pre.length : Int) < xs.length → (∀ y, xs[(pre.length : Int).toNat]? = some y → x = y) → wi ((pre.length : Int) + 1) = pre.length + 1 → (I (pre ++ [x]) → Ok (lp ((pre.length : Int) + 1)) Q) → Ok (F lp pre.length) Q)
    (fin : ∀ (Q : τ → Prop) lp, (∀ p, P p → Q p) → I xs → Ok (F lp xs.length) Q) : Ok (it1 F n 0) P := by
  refine Ok_it1 (fun (c : Int) => ∃ pre r, xs = pre ++ r ∧ c = pre.length ∧ I pre) (fun (c : Int) => ((xs.length : Int) - c).toNat) ?_ n 0 ⟨[], xs, rfl, rfl, h0⟩ (by show ((xs.length : Int) - 0).toNat < n; omega)
  rintro Q lp c hQ ⟨pre, r, e, rfl, hI⟩ ih
  cases r with
  | nil => rw [List.append_nil] at e; subst e; exact fin Q lp hQ hI
  | cons x r =>
    obtain ⟨h1, h2⟩ := pre_facts e
    exact step Q lp pre x r hQ e hI h1 h2 (wi_e (by omega) (by omega)) (fun hI' => ih _ ⟨pre ++ [x], r, by rw [e]; simp, by simp, hI'⟩ (by omega))
theorem Ok_pre2 {F : (β → Int → Option τ) → β → Int → Option τ} (xs : List α) (hxs : xs.length < 100000) (hn : 100000 ≤ n) (I : List α → β → Prop) {b0 : β} (h0 : I [] b0)
    (step : ∀ (Q : τ → Prop) lp (b : β) (pre : List α) (x : α) (r : List α), (∀ p, P p → Q p) → xs = pre ++ x :: r → I pre b → (pre.length : Int) < xs.length → (∀ y, xs[(pre.length : Int).toNat]? = some y → x = y) → wi ((pre.length : Int) + 1) = pre.length + 1 → (∀ b', I (pre ++ [x]) b' → Ok (lp b' ((pre.length : Int) + 1)) Q) → Ok (F lp b pre.length) Q)
    (fin : ∀ (Q : τ → Prop) lp (b : β), (∀ p, P p → Q p) → I xs b → Ok (F lp b xs.length) Q) : Ok (it2 F n b0 0) P := by
  refine Ok_it2 (fun (b : β) (c : Int) => ∃ pre r, xs = pre ++ r ∧ c = pre.length ∧ I pre b) (fun (_ : β) (c : Int) => ((xs.length : Int) - c).toNat) ?_ n b0 0 ⟨[], xs, rfl, rfl, h0⟩ (by show ((xs.length : Int) - 0).toNat < n; omega)
  rintro Q lp b c hQ ⟨pre, r, e, rfl, hI⟩ ih
  cases r with
  | nil => rw [List.append_nil] at e; subst e; exact fin Q lp b hQ hI
  | cons x r =>
    obtain ⟨h1, h2⟩ := pre_facts e
    exact step Q lp b pre x r hQ e hI h1 h2 (wi_e (by omega) (by omega)) (fun b' hI' => ih _ _ ⟨pre ++ [x], r, by rw [e]; simp, by simp, hI'⟩ (by omega))
theorem Ok_pre2' {F : (Int → β → Option τ) → Int → β → Option τ} (xs : List α) (hxs : xs.length < 100000) (hn : 100000 ≤ n) (I : List α → β → Prop) {b0 : β} (h0 : I [] b0)
    (step : ∀ (Q : τ → Prop) lp (b : β) (pre : List α) (x : α) (r : List α), (∀ p, P p → Q p) → xs = pre ++ x :: r → I pre b → (pre.length : Int) < xs.length → (∀ y, xs[(pre.length : Int).toNat]? = some y → x = y) → wi ((pre.length : Int) + 1) = pre.length + 1 → (∀ b', I (pre ++ [x]) b' → Ok (lp ((pre.length : Int) + 1) b') Q) → Ok (F lp pre.length b) Q)
    (fin : ∀ (Q : τ → Prop) lp (b : β), (∀ p, P p → Q p) → I xs b → Ok (F lp xs.length b) Q) : Ok (it2 F n 0 b0) P := by
  refine Ok_it2 (fun (c : Int) (b : β) => ∃ pre r, xs = pre ++ r ∧ c = pre.length ∧ I pre b) (fun (c : Int) (_ : β) => ((xs.length : Int) - c).toNat) ?_ n 0 b0 ⟨[], xs, rfl, rfl, h0⟩ (by show ((xs.length : Int) - 0).toNat < n; omega)
  rintro Q lp c b hQ ⟨pre, r, e, rfl, hI⟩ ih
  cases r with
  | nil => rw [List.append_nil] at e; subst e; exact fin Q lp b hQ hI
  | cons x r =>
    obtain ⟨h1, h2⟩ := pre_facts e
    exact step Q lp b pre x r hQ e hI h1 h2 (wi_e (by omega) (by omega)) (fun b' hI' => ih _ _ ⟨pre ++ [x], r, by rw [e]; simp, by simp, hI'⟩ (by omega))
theorem Ok_pre3 {F : (β → γ → Int → Option τ) → β → γ → Int → Option τ} (xs : List α) (hxs : xs.length < 100000) (hn : 100000 ≤ n) (I : List α → β → γ → Prop) {b0 : β} {c0 : γ} (h0 : I [] b0 c0)
    (step : ∀ (Q : τ → Prop) lp (b : β) (c : γ) (pre : List α) (x : α) (r : List α), (∀ p, P p → Q p) → xs = pre ++ x :: r → I pre b c → (pre.length : Int) < xs.length → (∀ y, xs[(pre.length : Int).toNat]? = some y → x = y) → wi ((pre.length : Int) + 1) = pre.length + 1 → (∀ b' c', I (pre ++ [x]) b' c' → Ok (lp b' c' ((pre.length : Int) + 1)) Q) → Ok (F lp b c pre.length) Q)
    (fin : ∀ (Q : τ → Prop) lp (b : β) (c : γ), (∀ p, P p → Q p) → I xs b c → Ok (F lp b c xs.length) Q) : Ok (it3 F n b0 c0 0) P := by
  refine Ok_it3 (fun (b : β) (g : γ) (c : Int) => ∃ pre r, xs = pre ++ r ∧ c = pre.length ∧ I pre b g) (fun (_ : β) (_ : γ) (c : Int) => ((xs.length : Int) - c).toNat) ?_ n b0 c0 0 ⟨[], xs, rfl, rfl, h0⟩ (by show ((xs.length : Int) - 0).toNat < n; omega)
  rintro Q lp b g c hQ ⟨pre, r, e, rfl, hI⟩ ih
  cases r with
  | nil => rw [List.append_nil] at e; subst e; exact fin Q lp b g hQ hI
  | cons x r =>
    obtain ⟨h1, h2⟩ := pre_facts e
    exact step Q lp b g pre x r hQ e hI h1 h2 (wi_e (by omega) (by omega)) (fun b' c' hI' => ih _ _ _ ⟨pre ++ [x], r, by rw [e]; simp, by simp, hI'⟩ (by omega))
end
section
variable {n : Nat}
theorem pre_len {α : Type} {xs pre r : List α} {x : α} (h : xs = pre ++ x :: r) : pre.length < xs.length := by rw [h]; simp
theorem copyFiles_ok {l : List File} (hn : 100000 ≤ n) (hl : l.length < 100000) : m27 n l = some l := by
  refine Ok.eq ?_
  unfold m27
  refine Ok_ob2 ?_
  unfold m27_w1
  refine Ok_pre2 l hl hn (fun pre b => b = pre) rfl (fun Q lp b pre x r hQ e hI hlt hget hw ih => ?_) (fun Q lp b hQ hI => ?_)
  · subst hI
    refine Ok_ite (fun _ => Ok_ix (by omega) hlt (fun y hy => ?_)) (fun h => absurd hlt h)
    obtain rfl := hget y hy
    have := pre_len e
    refine Ok_apd (by omega) ?_
    rw [hw]; exact ih _ rfl
  · exact Ok_ite (fun h => absurd h (by omega)) (fun _ => Ok.some' (hQ _ (Ok.some' hI)))
theorem copyInts_ok {l : List Int} (hn : 100000 ≤ n) (hl : l.length < 100000) : m175 n l = some l := by
  refine Ok.eq ?_
  unfold m175
  refine Ok_ob2 ?_
  unfold m175_w1
  refine Ok_pre2 l hl hn (fun pre b => b = pre) rfl (fun Q lp b pre x r hQ e hI hlt hget hw ih => ?_) (fun Q lp b hQ hI => ?_)
  · subst hI
    refine Ok_ite (fun _ => Ok_ix (by omega) hlt (fun y hy => ?_)) (fun h => absurd hlt h)
    obtain rfl := hget y hy
    have := pre_len e
    refine Ok_apd (by omega) ?_
    rw [hw]; exact ih _ rfl
  · exact Ok_ite (fun h => absurd h (by omega)) (fun _ => Ok.some' (hQ _ (Ok.some' hI)))
theorem copyNode_ok {x : Node} (hn : 100000 ≤ n) (hf : x.files.length < 100000) (hp : x.parents.length < 100000) : m78 n x = some x := by
  refine Ok.eq ?_
  unfold m78
  exact Ok_cl1 (copyFiles_ok hn hf) (Ok_cl1 (copyInts_ok hn hp) (Ok_nm (Ok.some' rfl)))
/-- short lists -/
structure NodeS (x : Node) : Prop where
  f : x.files.length ≤ 8
  p : x.parents.length ≤ 2
theorem copyNodes_ok {l : List Node} (hn : 100000 ≤ n) (hl : l.length < 100000) (hs : ∀ x, x ∈ l → NodeS x) : m25 n l = some l := by
  refine Ok.eq ?_
  unfold m25
  refine Ok_ob2 ?_
  unfold m25_w1
  refine Ok_pre2 l hl hn (fun pre b => b = pre) rfl (fun Q lp b pre x r hQ e hI hlt hget hw ih => ?_) (fun Q lp b hQ hI => ?_)
  · subst hI
    refine Ok_ite (fun _ => Ok_ix (by omega) hlt (fun y hy => ?_)) (fun h => absurd hlt h)
    obtain rfl := hget y hy
    have := pre_len e
    have hx := hs x (by rw [e]; simp)
    have h1 := hx.f
    have h2 := hx.p
    refine Ok_cl1 (copyNode_ok hn (by omega) (by omega)) (Ok_apd (by omega) ?_)
    rw [hw]; exact ih _ rfl
  · exact Ok_ite (fun h => absurd h (by omega)) (fun _ => Ok.some' (hQ _ (Ok.some' hI)))
theorem copyRefs_ok {l : List Ref_} (hn : 100000 ≤ n) (hl : l.length < 100000) : m26 n l = some l := by
  refine Ok.eq ?_
  unfold m26
  refine Ok_ob2 ?_
  unfold m26_w1
  refine Ok_pre2 l hl hn (fun pre b => b = pre) rfl (fun Q lp b pre x r hQ e hI hlt hget hw ih => ?_) (fun Q lp b hQ hI => ?_)
  · subst hI
    refine Ok_ite (fun _ => Ok_ix (by omega) hlt (fun y hy => ?_)) (fun h => absurd hlt h)
    obtain rfl := hget y hy
    have := pre_len e
    refine Ok_apd (by omega) ?_
    rw [hw]; exact ih _ rfl
  · exact Ok_ite (fun h => absurd h (by omega)) (fun _ => Ok.some' (hQ _ (Ok.some' hI)))
theorem withR_len : ∀ (r : List Ref_) (name : Str) (seq : Int), (withR r name seq).length ≤ r.length + 1
  | [], _, _ => by simp [withR]
  | x :: r, name, seq => by
    have := withR_len r name seq
    unfold withR
    split
    · simp
    · split
      · simp
      · simp only [List.length_cons]; omega
theorem withRef_ok {l : List Ref_} {name : Str} {seq : Int} (hn : 100000 ≤ n) (hl : l.length < 10000) : m141 n l name seq = some (withR l name seq) := by
  refine Ok.eq ?_
  unfold m141
  refine Ok_ob3 ?_
  unfold m141_w1
  refine Ok_pre3 l (by omega) hn (fun pre b d => b.length ≤ 2 * pre.length + 1 ∧ ∀ r, l = pre ++ r → withR l name seq = if d = true then b ++ r else b ++ withR r name seq) ⟨by simp, fun r e => by rw [e]; rfl⟩ (fun Q lp b d pre x r hQ e hI hlt hget hw ih => ?_) (fun Q lp b d hQ hI => ?_)
  · have hpl := pre_len e
    obtain ⟨hI0, hI⟩ := hI
    have hI := hI _ e
    have hnext : ∀ b' d', b'.length ≤ 2 * pre.length + 3 → withR l name seq = (if d' = true then b' ++ r else b' ++ withR r name seq) → Ok (lp b' d' (wi ((pre.length : Int) + 1))) Q := by
      intro b' d' h1 h2
      rw [hw]
      refine ih b' d' ⟨by simp; omega, fun r' e' => ?_⟩
      have : r = r' := by rw [e] at e'; simpa using e'
      rw [← this]; exact h2
    refine Ok_ite (fun _ => ?_) (fun h => absurd hlt h)
    cases d with
    | true =>
      refine Ok_ob1 (Ok_cond (fun e => nomatch e) (fun _ => Ok.some' (Ok_cond (fun e => nomatch e) (fun _ => Ok_ix (by omega) hlt (fun y hy => ?_)))))
      obtain rfl := hget y hy
      exact Ok_apd (by omega) (hnext _ _ (by simp; omega) (by rw [hI]; simp))
    | false =>
      refine Ok_ob1 (Ok_cond (fun _ => Ok_ix (by omega) hlt (fun y hy => ?_)) (fun e => nomatch e))
      obtain rfl := hget y hy
      refine Ok.some' (Ok_cond (fun hb => ?_) (fun hb => ?_))
      · refine Ok_apd (by omega) (Ok_ix (by omega) hlt (fun y hy => ?_))
        obtain rfl := hget y hy
        have hI : withR l name seq = b ++ withR (x :: r) name seq := hI
        have hwr : withR (x :: r) name seq = if sLt name x.name = true then { name := name, seq := seq } :: x :: r else if name = x.name then { name := name, seq := seq } :: r else x :: withR r name seq := rfl
        refine Ok_ite (fun e2 => ?_) (fun e2 => ?_)
        · refine hnext _ _ (by simp; omega) ?_
          rw [hI, hwr, if_neg (by rw [← e2, sLt_irrefl]; decide), if_pos e2]; simp
        · refine Ok_ix (by omega) hlt (fun y hy => ?_)
          obtain rfl := hget y hy
          refine Ok_apd (by simp; omega) (hnext _ _ (by simp only [List.length_append, List.length_singleton]; omega) ?_)
          have hlt2 : sLt name x.name = true := by
            rw [Bool.or_eq_true, decide_eq_true_eq] at hb; exact hb.resolve_right e2
          rw [hI, hwr, if_pos hlt2]; simp
      · refine Ok_ix (by omega) hlt (fun y hy => ?_)
        obtain rfl := hget y hy
        rw [Bool.or_eq_false_iff, decide_eq_false_iff_not] at hb
        refine Ok_apd (by omega) (hnext _ _ (by simp; omega) ?_)
        have hI : withR l name seq = b ++ withR (x :: r) name seq := hI
        have hwr : withR (x :: r) name seq = if sLt name x.name = true then { name := name, seq := seq } :: x :: r else if name = x.name then { name := name, seq := seq } :: r else x :: withR r name seq := rfl
        rw [hI, hwr, if_neg (by rw [hb.1]; decide), if_neg hb.2]; simp
  · obtain ⟨hI0, hI⟩ := hI
    have hI := hI [] (by simp)
    refine Ok_ite (fun h => absurd h (by omega)) (fun _ => Ok.some' (hQ _ ?_))
    cases d with
    | true => exact Ok_cond (fun e => nomatch e) (fun _ => Ok.some' (by rw [hI]; simp))
    | false => exact Ok_cond (fun _ => Ok_apd (by show b.length < _; omega) (Ok.some' (by rw [hI]; simp [withR]))) (fun e => nomatch e)
theorem withoutRef_ok {l : List Ref_} {name : Str} (hn : 100000 ≤ n) (hl : l.length < 10000) : m143 n l name = some (withoutR l name) := by
  refine Ok.eq ?_
  unfold m143
  refine Ok_ob2 ?_
  unfold m143_w1
  refine Ok_pre2 l (by omega) hn (fun pre b => b = withoutR pre name) rfl (fun Q lp b pre x r hQ e hI hlt hget hw ih => ?_) (fun Q lp b hQ hI => ?_)
  · subst hI
    have hpl := pre_len e
    have hfl : (withoutR pre name).length ≤ pre.length := List.length_filter_le _ _
    refine Ok_ite (fun _ => Ok_ix (by omega) hlt (fun y hy => ?_)) (fun h => absurd hlt h)
    obtain rfl := hget y hy
    rw [hw]
    refine Ok_iteN (fun hb => Ok_ix (by omega) hlt (fun y hy => ?_)) (fun hb => ih _ ?_)
    · obtain rfl := hget y hy
      refine Ok_apd (by omega) (ih _ ?_)
      unfold withoutR
      rw [List.filter_append]
      have : x.name ≠ name := of_decide_eq_false hb
      simp [this]
    · unfold withoutR
      rw [List.filter_append]
      have : x.name = name := of_decide_eq_true hb
      simp [this]
  · exact Ok_ite (fun h => absurd h (by omega)) (fun _ => Ok.some' (hQ _ (Ok.some' hI)))
theorem findRef_ok {l : List Ref_} {name : Str} (hn : 100000 ≤ n) (hl : l.length < 100000) : Ok (m140 n l name) (fun r => (r = -1 ∧ findR l name = none) ∨ (0 ≤ r ∧ r < l.length ∧ ∃ x, l[r.toNat]? = some x ∧ x.name = name ∧ findR l name = some x)) := by
  unfold m140
  refine Ok_flow ?_
  unfold m140_w1
  refine Ok_pre1 l hl hn (fun pre => ∀ x, x ∈ pre → x.name ≠ name) (by simp) (fun Q lp pre x r hQ e hI hlt hget hw ih => ?_) (fun Q lp hQ hI => ?_)
  · refine Ok_ite (fun _ => Ok_ix (by omega) hlt (fun y hy => ?_)) (fun h => absurd hlt h)
    obtain rfl := hget y hy
    refine Ok_ite (fun e2 => Ok_bs (Ok.some' (hQ _ (Ok.some' (.inr ⟨by omega, hlt, x, hy, e2, ?_⟩))))) (fun e2 => ?_)
    · unfold findR
      rw [e, List.find?_append, List.find?_eq_none.2 (fun y hy => by simpa using hI y hy)]
      simp [e2]
    · rw [hw]
      refine ih (fun y hy => ?_)
      rcases List.mem_append.1 hy with h | h
      · exact hI y h
      · rw [List.mem_singleton.1 h]; exact e2
  · refine Ok_ite (fun h => absurd h (by omega)) (fun _ => Ok.some' (hQ _ (Ok.some' (.inl ⟨rfl, ?_⟩))))
    exact List.find?_eq_none.2 (fun y hy => by simpa using hI y hy)
/-- what a collection starts from -/
def rootsN (r : List Ref_) (h : Head) : List Int := r.map (·.seq) ++ ((if h.name = [] then [h.seq] else []) ++ if h.merge ≠ 0 then [h.merge] else [])
theorem roots_ok {l : List Ref_} {h : Head} (hn : 100000 ≤ n) (hl : l.length < 10000) : m240 n l h = some (rootsN l h) := by
  refine Ok.eq ?_
  unfold m240
  refine Ok_ob2 ?_
  unfold m240_w1
  refine Ok_pre2 l (by omega) hn (fun pre b => b = pre.map (·.seq)) rfl (fun Q lp b pre x r hQ e hI hlt hget hw ih => ?_) (fun Q lp b hQ hI => ?_)
  · subst hI
    refine Ok_ite (fun _ => Ok_ix (by omega) hlt (fun y hy => ?_)) (fun h => absurd hlt h)
    obtain rfl := hget y hy
    have := pre_len e
    refine Ok_apd (by rw [List.length_map]; omega) ?_
    rw [hw]; exact ih _ (by rw [List.map_append]; rfl)
  · subst hI
    refine Ok_ite (fun h => absurd h (by omega)) (fun _ => Ok.some' (hQ _ ?_))
    unfold rootsN
    refine Ok_ite (fun e1 => Ok_apd (by rw [List.length_map]; omega) (Ok_ite (fun e2 => Ok_apd (by simp; omega) (Ok.some' ?_)) (fun e2 => Ok.some' ?_))) (fun e1 => Ok_ite (fun e2 => Ok_apd (by rw [List.length_map]; omega) (Ok.some' ?_)) (fun e2 => Ok.some' ?_))
    · rw [if_pos e1, if_pos e2]; simp
    · rw [if_pos e1, if_neg e2]; simp
    · rw [if_neg e1, if_pos e2]; simp
    · rw [if_neg e1, if_neg e2]; simp
end
end Go.Proofs.Qxb6500350aGreat
