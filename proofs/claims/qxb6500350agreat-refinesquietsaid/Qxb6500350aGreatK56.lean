/- PLAIN LAW: LISTS OF FILES IN THE MODEL; STATUSOF. -/
import Derived.Test.Qxb6500350aGreatK55
import Derived.Test.Qxb6500350aGreatT117
import Derived.Test.Qxb6500350aGreatT119
import Derived.Test.Qxb6500350aGreatT96
import Derived.Test.Qxb6500350aGreatT71
import Derived.Test.Qxb6500350aGreatT116
import Derived.Test.Qxb6500350aGreatT180
set_option linter.unusedVariables false
set_option linter.unusedSimpArgs false
set_option maxHeartbeats 1000000
namespace Go.Proofs.Qxb6500350aGreat
open Go.Eng Go
theorem withF_len_le : ∀ (r : List File) (f : File), (withF r f).length ≤ r.length + 1
  | [], _ => by simp [withF]
  | x :: r, f => by
    have := withF_len_le r f
    unfold withF
    split
    · simp
    · split
      · simp
      · simp only [List.length_cons]; omega
section
variable {n : Nat}
theorem with_ok {l : List File} {f : File} (hn : 100000 ≤ n) (hl : l.length < 10000) : m117 n l f = some (withF l f) := by
  refine Ok.eq ?_
  unfold m117
  refine Ok_ob3 ?_
  unfold m117_w1
  refine Ok_pre3 l (by omega) hn (fun pre b d => b.length ≤ 2 * pre.length + 1 ∧ ∀ r, l = pre ++ r → withF l f = if d = true then b ++ r else b ++ withF r f) ⟨by simp, fun r e => by rw [e]; rfl⟩ (fun Q lp b d pre x r hQ e hI hlt hget hw ih => ?_) (fun Q lp b d hQ hI => ?_)
  · have hpl := pre_len e
    obtain ⟨hI0, hI⟩ := hI
    have hI := hI _ e
    have hnext : ∀ b' d', b'.length ≤ 2 * pre.length + 3 → withF l f = (if d' = true then b' ++ r else b' ++ withF r f) → Ok (lp b' d' (wi ((pre.length : Int) + 1))) Q := by
      intro b' d' h1 h2
      rw [hw]
      refine ih b' d' ⟨by simp; omega, fun r' e' => ?_⟩
      have : r = r' := by rw [e] at e'; simpa using e'
      rw [← this]; exact h2
    refine Ok_ite (fun _ => ?_) (fun h => absurd hlt h)
    cases d with
    | true =>
      refine Ok_ob1 (Ok_cond (fun e => nomatch e) (fun _ => Ok.some' (Ok_cond (fun e => nomatch e) (fun _ => Ok_ix (by omega) hlt (fun y hy => ?_)))))
      obtain rfl := hget y hy
      exact Ok_apd (by omega) (hnext _ _ (by simp; omega) (by rw [hI]; simp))
    | false =>
      refine Ok_ob1 (Ok_cond (fun _ => Ok_ix (by omega) hlt (fun y hy => ?_)) (fun e => nomatch e))
      obtain rfl := hget y hy
      have hI : withF l f = b ++ withF (x :: r) f := hI
      have hwr : withF (x :: r) f = if sLt f.path x.path = true then f :: x :: r else if f.path = x.path then f :: r else x :: withF r f := rfl
      refine Ok.some' (Ok_cond (fun hb => ?_) (fun hb => ?_))
      · refine Ok_apd (by omega) (Ok_ix (by omega) hlt (fun y hy => ?_))
        obtain rfl := hget y hy
        refine Ok_ite (fun e2 => ?_) (fun e2 => ?_)
        · refine hnext _ _ (by simp; omega) ?_
          rw [hI, hwr, if_neg (by rw [← e2, sLt_irrefl]; decide), if_pos e2]; simp
        · refine Ok_ix (by omega) hlt (fun y hy => ?_)
          obtain rfl := hget y hy
          refine Ok_apd (by simp; omega) (hnext _ _ (by simp only [List.length_append, List.length_singleton]; omega) ?_)
          have hlt2 : sLt f.path x.path = true := by
            rw [Bool.or_eq_true, decide_eq_true_eq] at hb; exact hb.resolve_right e2
          rw [hI, hwr, if_pos hlt2]; simp
      · refine Ok_ix (by omega) hlt (fun y hy => ?_)
        obtain rfl := hget y hy
        rw [Bool.or_eq_false_iff, decide_eq_false_iff_not] at hb
        refine Ok_apd (by omega) (hnext _ _ (by simp; omega) ?_)
        rw [hI, hwr, if_neg (by rw [hb.1]; decide), if_neg hb.2]; simp
  · obtain ⟨hI0, hI⟩ := hI
    have hI := hI [] (by simp)
    refine Ok_ite (fun h => absurd h (by omega)) (fun _ => Ok.some' (hQ _ ?_))
    cases d with
    | true => exact Ok_cond (fun e => nomatch e) (fun _ => Ok.some' (by rw [hI]; simp))
    | false => exact Ok_cond (fun _ => Ok_apd (by show b.length < _; omega) (Ok.some' (by rw [hI]; simp [withF]))) (fun e => nomatch e)
theorem without_ok {l : List File} {p : Str} (hn : 100000 ≤ n) (hl : l.length < 10000) : m119 n l p = some (withoutF l p) := by
  refine Ok.eq ?_
  unfold m119
  refine Ok_ob2 ?_
  unfold m119_w1
  refine Ok_pre2 l (by omega) hn (fun pre b => b = withoutF pre p) rfl (fun Q lp b pre x r hQ e hI hlt hget hw ih => ?_) (fun Q lp b hQ hI => ?_)
  · subst hI
    have hpl := pre_len e
    have hfl : (withoutF pre p).length ≤ pre.length := List.length_filter_le _ _
    refine Ok_ite (fun _ => Ok_ix (by omega) hlt (fun y hy => ?_)) (fun h => absurd hlt h)
    obtain rfl := hget y hy
    rw [hw]
    refine Ok_iteN (fun hb => Ok_ix (by omega) hlt (fun y hy => ?_)) (fun hb => ih _ ?_)
    · obtain rfl := hget y hy
      refine Ok_apd (by omega) (ih _ ?_)
      unfold withoutF
      rw [List.filter_append]
      have : x.path ≠ p := of_decide_eq_false hb
      simp [this]
    · unfold withoutF
      rw [List.filter_append]
      have : x.path = p := of_decide_eq_true hb
      simp [this]
  · exact Ok_ite (fun h => absurd h (by omega)) (fun _ => Ok.some' (hQ _ (Ok.some' hI)))
/-- i is the index of the row o, or -1 -/
def Idx (l : List File) (i : Int) (o : Option File) : Prop := (i = -1 ∧ o = none) ∨ (0 ≤ i ∧ i < l.length ∧ ∃ f, l[i.toNat]? = some f ∧ o = some f)
theorem findF_some {l : List File} {p : Str} {f : File} (h : findF l p = some f) : f ∈ l ∧ f.path = p := ⟨List.mem_of_find?_eq_some h, of_decide_eq_true (p := f.path = p) (List.find?_some (p := fun (y : File) => decide (y.path = p)) h)⟩
theorem findF_none {l : List File} {p : Str} : findF l p = none ↔ ∀ f, f ∈ l → f.path ≠ p := by
  unfold findF
  rw [List.find?_eq_none]
  exact ⟨fun h f hf e => h f hf (decide_eq_true e), fun h f hf e => h f hf (of_decide_eq_true e)⟩
theorem findX_ok {l : List File} {p : Str} (hn : 100000 ≤ n) (hl : l.length < 100000) : Ok (m118 n l p) (fun r => Idx l r (findF l p)) := by
  unfold m118
  refine Ok_flow ?_
  unfold m118_w1
  refine Ok_pre1 l hl hn (fun pre => ∀ x, x ∈ pre → x.path ≠ p) (by simp) (fun Q lp pre x r hQ e hI hlt hget hw ih => ?_) (fun Q lp hQ hI => ?_)
  · refine Ok_ite (fun _ => Ok_ix (by omega) hlt (fun y hy => ?_)) (fun h => absurd hlt h)
    obtain rfl := hget y hy
    refine Ok_ite (fun e2 => Ok_bs (Ok.some' (hQ _ (Ok.some' (.inr ⟨by omega, hlt, x, hy, ?_⟩))))) (fun e2 => ?_)
    · unfold findF
      rw [e, List.find?_append, List.find?_eq_none.2 (fun y hy => by simpa using hI y hy)]
      simp [e2]
    · rw [hw]
      refine ih (fun y hy => ?_)
      rcases List.mem_append.1 hy with h | h
      · exact hI y h
      · rw [List.mem_singleton.1 h]; exact e2
  · refine Ok_ite (fun h => absurd h (by omega)) (fun _ => Ok.some' (hQ _ (Ok.some' (.inl ⟨rfl, ?_⟩))))
    exact findF_none.2 hI
theorem sameFiles_ok {a b : List File} (hn : 100000 ≤ n) (hl : a.length < 100000) : m96 n a b = some (decide (a = b)) := by
  refine Ok.eq ?_
  unfold m96
  refine Ok_ite (fun h => Ok.some' (decide_eq_false (fun e => h (by rw [e]))).symm) (fun h => Ok_flow ?_)
  have hlen : a.length = b.length := by omega
  unfold m96_w1
  refine Ok_pre1 a hl hn (fun pre => pre = b.take pre.length) (by simp) (fun Q lp pre x r hQ e hI hlt hget hw ih => ?_) (fun Q lp hQ hI => ?_)
  · refine Ok_ite (fun _ => Ok_ix (by omega) hlt (fun y hy => Ok_ix (by omega) (by omega) (fun z hz => ?_))) (fun h => absurd hlt h)
    obtain rfl := hget y hy
    rw [Int.toNat_natCast] at hy hz
    refine Ok_iteN (fun hne => Ok_bs (Ok.some' (hQ _ (Ok.some' (decide_eq_false (fun e2 => ?_)).symm)))) (fun heq => ?_)
    · rw [e2, hz] at hy
      exact absurd (Option.some.inj hy).symm (of_decide_eq_false hne)
    · have heq : x = z := of_decide_eq_true heq
      rw [hw]
      refine ih ?_
      rw [List.length_append, List.length_singleton, List.take_add_one, hz, ← heq, ← hI]; rfl
  · refine Ok_ite (fun h => absurd h (by omega)) (fun _ => Ok.some' (hQ _ (Ok.some' (decide_eq_true ?_).symm)))
    rw [hlen, List.take_length] at hI; exact hI
def plainF (l : List File) : List File := l.map fun f => { path := f.path, data := f.data, mode := 0 }
theorem plain_ok {l : List File} (hn : 100000 ≤ n) (hl : l.length < 100000) : m71 n l = some (plainF l) := by
  refine Ok.eq ?_
  unfold m71
  refine Ok_ob2 ?_
  unfold m71_w1
  refine Ok_pre2 l hl hn (fun pre b => b = plainF pre) rfl (fun Q lp b pre x r hQ e hI hlt hget hw ih => ?_) (fun Q lp b hQ hI => ?_)
  · subst hI
    have hpl := pre_len e
    refine Ok_ite (fun _ => Ok_ix (by omega) hlt (fun y hy => Ok_ix (by omega) hlt (fun z hz => ?_))) (fun h => absurd hlt h)
    obtain rfl := hget y hy
    obtain rfl := hget z hz
    refine Ok_apd (by unfold plainF; rw [List.length_map]; omega) ?_
    rw [hw]; exact ih _ (by unfold plainF; rw [List.map_append]; rfl)
  · exact Ok_ite (fun h => absurd h (by omega)) (fun _ => Ok.some' (hQ _ (Ok.some' hI)))
def fitsV (l : List File) (p : Str) : Int := if (∃ g, g ∈ l ∧ clashP g.path p = true) then 12 else if findF l p = none ∧ 8 ≤ l.length then 8 else 0
theorem fits_ok {l : List File} {p : Str} (hn : 100000 ≤ n) (hl : l.length < 100000) (hs : ∀ g, g ∈ l → g.path.length ≤ 1000) (hp : p.length ≤ 1000000) : m116 n l p = some (fitsV l p) := by
  refine Ok.eq ?_
  unfold m116 fitsV
  refine Ok_flow ?_
  unfold m116_w1
  refine Ok_pre1 l hl hn (fun pre => ∀ x, x ∈ pre → clashP x.path p = false) (by simp) (fun Q lp pre x r hQ e hI hlt hget hw ih => ?_) (fun Q lp hQ hI => ?_)
  · have hxm : x ∈ l := by rw [e]; simp
    have hxl := hs x hxm
    refine Ok_ite (fun _ => Ok_ix (by omega) hlt (fun y hy => ?_)) (fun h => absurd hlt h)
    obtain rfl := hget y hy
    refine Ok_cl1 (clash_ok (by omega) hp) (Ok_cond (fun e2 => Ok_bs (Ok.some' (hQ _ (Ok.some' ?_)))) (fun e2 => ?_))
    · rw [if_pos ⟨x, hxm, e2⟩]
    · rw [hw]
      refine ih (fun y hy => ?_)
      rcases List.mem_append.1 hy with h | h
      · exact hI y h
      · rw [List.mem_singleton.1 h]; exact e2
  · refine Ok_ite (fun h => absurd h (by omega)) (fun _ => Ok.some' (hQ _ ?_))
    rw [if_neg (fun ⟨g, hg, hc⟩ => by rw [hI g hg] at hc; cases hc)]
    refine Ok_ob1 (Ok_ob1 ((findX_ok hn hl).mono (fun r hr => ?_)))
    rcases hr with ⟨rfl, hf⟩ | ⟨h1, h2, f, h3, hf⟩
    · rw [hf]
      refine Ok_ite (fun _ => Ok.some' ?_) (fun e => absurd e (by omega))
      refine Ok_ite (fun e => Ok.some' (by rw [if_pos ⟨rfl, by omega⟩])) (fun e => Ok.some' (by rw [if_neg (fun h => e (by omega))]))
    · rw [hf]
      refine Ok_ite (fun e => absurd e (by omega)) (fun _ => Ok.some' ?_)
      exact Ok_cond (fun e => nomatch e) (fun _ => Ok.some' (by rw [if_neg (fun h => nomatch h.1)]))
def codeV (wm : Bool) : Option File → Option File → Int
  | none, none => 0
  | none, some _ => 1
  | some _, none => 3
  | some a, some b => if a.data ≠ b.data ∨ (wm = true ∧ a.mode ≠ b.mode) then 2 else 0
theorem code_ok {b w : List File} {i j : Int} {oi oj : Option File} {wm : Bool} (h1 : Idx b i oi) (h2 : Idx w j oj) : m252 n b i w j wm = some (codeV wm oi oj) := by
  refine Ok.eq ?_
  unfold m252
  rcases h1 with ⟨rfl, rfl⟩ | ⟨a1, a2, f, a3, rfl⟩
  · rcases h2 with ⟨rfl, rfl⟩ | ⟨b1, b2, f, b3, rfl⟩
    · exact Ok_ite2 (fun _ _ => Ok.some' rfl) (fun e => absurd (show (-1 : Int) < 0 by decide) (e (by decide)))
    · exact Ok_ite2 (fun _ e => by omega) (fun _ => Ok_ite (fun _ => Ok.some' rfl) (fun e => absurd (show (-1 : Int) < 0 by decide) e))
  · rcases h2 with ⟨rfl, rfl⟩ | ⟨b1, b2, g, b3, rfl⟩
    · exact Ok_ite2 (fun e _ => by omega) (fun _ => Ok_ite (fun e => by omega) (fun _ => Ok_ite (fun _ => Ok.some' rfl) (fun e => absurd (show (-1 : Int) < 0 by decide) e)))
    · refine Ok_ite2 (fun e _ => by omega) (fun _ => Ok_ite (fun e => by omega) (fun _ => Ok_ite (fun e => by omega) (fun _ => ?_)))
      have hval : Ok (Option.bind (ixL b i) fun x1 => Option.bind (ixL w j) fun x2 => cond (!(decide (x1.data = x2.data))) (some (true)) (cond wm (Option.bind (ixL b i) fun x3 => Option.bind (ixL w j) fun x4 => some ((decide (¬ (x3.mode = x4.mode))))) (some (false)))) (fun v => v = decide (f.data ≠ g.data ∨ (wm = true ∧ f.mode ≠ g.mode))) := by
        refine Ok_ix a1 a2 (fun x1 hx1 => Ok_ix b1 b2 (fun x2 hx2 => ?_))
        obtain rfl : f = x1 := Option.some.inj (a3.symm.trans hx1)
        obtain rfl : g = x2 := Option.some.inj (b3.symm.trans hx2)
        refine Ok_iteN (fun e => Ok.some' (decide_eq_true (.inl (of_decide_eq_false e))).symm) (fun e => ?_)
        have e : f.data = g.data := of_decide_eq_true e
        refine Ok_cond (fun ew => Ok_ix a1 a2 (fun x3 hx3 => Ok_ix b1 b2 (fun x4 hx4 => Ok.some' ?_))) (fun ew => Ok.some' ?_)
        · obtain rfl : f = x3 := Option.some.inj (a3.symm.trans hx3)
          obtain rfl : g = x4 := Option.some.inj (b3.symm.trans hx4)
          refine decide_eq_decide.2 ⟨fun h => .inr ⟨ew, h⟩, fun h => h.elim (fun h => absurd e h) (fun h => h.2)⟩
        · exact (decide_eq_false (fun h => h.elim (fun h => h e) (fun h => by rw [ew] at h; cases h.1))).symm
      refine Ok_ob1 (hval.mono (fun v hv => ?_))
      subst hv
      refine Ok_ite (fun e => Ok.some' ?_) (fun e => Ok.some' ?_)
      · show (2 : Int) = if f.data ≠ g.data ∨ (wm = true ∧ f.mode ≠ g.mode) then 2 else 0
        rw [if_pos e]
      · show (0 : Int) = if f.data ≠ g.data ∨ (wm = true ∧ f.mode ≠ g.mode) then 2 else 0
        rw [if_neg e]
/-- the paths of lists, ascending -/
def addP (acc : List File) (l : List File) : List File := l.foldl (fun acc f => withF acc { path := f.path, data := [], mode := 0 }) acc
def upaths (a b c : List File) : List File := addP (addP (addP [] a) b) c
theorem addP_srt : ∀ (l acc : List File), (acc.Pairwise fun a b => sLt a.path b.path = true) → (addP acc l).Pairwise fun a b => sLt a.path b.path = true
  | [], _, h => h
  | f :: l, acc, h => addP_srt l _ (withF_srt h)
theorem addP_mem {p : Str} : ∀ (l acc : List File), (acc.Pairwise fun a b => sLt a.path b.path = true) → ((∃ x, x ∈ addP acc l ∧ x.path = p) ↔ (∃ x, x ∈ acc ∧ x.path = p) ∨ ∃ x, x ∈ l ∧ x.path = p)
  | [], acc, _ => by simp [addP]
  | f :: l, acc, h => by
    have ih := addP_mem (p := p) l (withF acc { path := f.path, data := [], mode := 0 }) (withF_srt h)
    show (∃ x, x ∈ addP (withF acc { path := f.path, data := [], mode := 0 }) l ∧ x.path = p) ↔ _
    rw [ih]
    have hw : (∃ x, x ∈ withF acc { path := f.path, data := [], mode := 0 } ∧ x.path = p) ↔ (∃ x, x ∈ acc ∧ x.path = p) ∨ f.path = p := by
      constructor
      · rintro ⟨x, hx, e⟩
        rcases (withF_mem h).1 hx with rfl | hx
        · exact .inr e
        · exact .inl ⟨x, hx.1, e⟩
      · rintro (⟨x, hx, e⟩ | e)
        · by_cases e2 : x.path = f.path
          · exact ⟨_, (withF_mem h).2 (.inl rfl), by rw [← e2]; exact e⟩
          · exact ⟨x, (withF_mem h).2 (.inr ⟨hx, e2⟩), e⟩
        · exact ⟨_, (withF_mem h).2 (.inl rfl), e⟩
    rw [hw, or_assoc]
    refine or_congr_right ?_
    simp only [List.mem_cons, exists_eq_or_imp]
theorem addP_len : ∀ (l acc : List File), (addP acc l).length ≤ acc.length + l.length
  | [], _ => by simp [addP]
  | f :: l, acc => by
    have h1 := addP_len l (withF acc { path := f.path, data := [], mode := 0 })
    have h2 := withF_len_le acc { path := f.path, data := [], mode := 0 }
    show (addP (withF acc { path := f.path, data := [], mode := 0 }) l).length ≤ _
    rw [List.length_cons]; omega
theorem addP_snoc (acc l : List File) (f : File) : addP acc (l ++ [f]) = withF (addP acc l) { path := f.path, data := [], mode := 0 } := by unfold addP; rw [List.foldl_append]; rfl
/-- the row of the status at a path -/
def stN (head index work : List File) (p : Str) : Chg := { path := p, staged := codeV true (findF head p) (findF index p), work := codeV false (findF index p) (findF work p) }
def nzC (c : Chg) : Bool := decide (c.staged ≠ 0 ∨ c.work ≠ 0)
def statusN (head index work : List File) : List Chg := ((upaths head index work).map fun q => stN head index work q.path).filter nzC
theorem statusOf_ok {a b c : List File} (hn : 100000 ≤ n) (ha : a.length ≤ 1000) (hb : b.length ≤ 1000) (hc : c.length ≤ 1000) : m180 n a b c = some (statusN a b c) := by
  have step : ∀ (Q : (List File × Int) → Prop) (F : Nat) , True := fun _ _ => trivial
  have l1 := addP_len a []
  have l2 := addP_len b (addP [] a)
  have l3 := addP_len c (addP (addP [] a) b)
  simp only [List.length_nil] at l1
  refine Ok.eq ?_
  unfold m180
  refine Ok_ob2 ?_
  unfold m180_w1
  refine Ok_pre2 a (by omega) hn (fun pre z => z = addP [] pre) rfl (fun Q lp z pre x r hQ e hI hlt hget hw ih => ?_) (fun Q lp z hQ hI => ?_)
  · subst hI
    have hpl := pre_len e
    have hz := addP_len pre []
    simp only [List.length_nil] at hz
    refine Ok_ite (fun _ => Ok_ix (by omega) hlt (fun y hy => ?_)) (fun h => absurd hlt h)
    obtain rfl := hget y hy
    refine Ok_cl1 (with_ok hn (by omega)) ?_
    rw [hw]; exact ih _ (addP_snoc [] pre x).symm
  subst hI
  refine Ok_ite (fun h => absurd h (by omega)) (fun _ => Ok.some' (hQ _ (Ok_ob2 ?_)))
  clear hQ
  unfold m180_w2
  refine Ok_pre2 b (by omega) hn (fun pre z => z = addP (addP [] a) pre) rfl (fun Q lp z pre x r hQ e hI hlt hget hw ih => ?_) (fun Q lp z hQ hI => ?_)
  · subst hI
    have hpl := pre_len e
    have hz := addP_len pre (addP [] a)
    refine Ok_ite (fun _ => Ok_ix (by omega) hlt (fun y hy => ?_)) (fun h => absurd hlt h)
    obtain rfl := hget y hy
    refine Ok_cl1 (with_ok hn (by omega)) ?_
    rw [hw]; exact ih _ (addP_snoc _ pre x).symm
  subst hI
  refine Ok_ite (fun h => absurd h (by omega)) (fun _ => Ok.some' (hQ _ (Ok_ob2 ?_)))
  clear hQ
  unfold m180_w3
  refine Ok_pre2 c (by omega) hn (fun pre z => z = addP (addP (addP [] a) b) pre) rfl (fun Q lp z pre x r hQ e hI hlt hget hw ih => ?_) (fun Q lp z hQ hI => ?_)
  · subst hI
    have hpl := pre_len e
    have hz := addP_len pre (addP (addP [] a) b)
    refine Ok_ite (fun _ => Ok_ix (by omega) hlt (fun y hy => ?_)) (fun h => absurd hlt h)
    obtain rfl := hget y hy
    refine Ok_cl1 (with_ok hn (by omega)) ?_
    rw [hw]; exact ih _ (addP_snoc _ pre x).symm
  subst hI
  refine Ok_ite (fun h => absurd h (by omega)) (fun _ => Ok.some' (hQ _ (Ok_ob2 ?_)))
  clear hQ
  show Ok (m180_w4 n a b c (upaths a b c) n [] 0) _
  have hul : (upaths a b c).length ≤ 3000 := by unfold upaths; omega
  unfold m180_w4
  refine Ok_pre2 (upaths a b c) (by omega) hn (fun pre z => z = (pre.map fun q => stN a b c q.path).filter nzC) rfl (fun Q lp z pre x r hQ e hI hlt hget hw ih => ?_) (fun Q lp z hQ hI => ?_)
  · subst hI
    have hpl := pre_len e
    have hz := List.length_filter_le nzC (pre.map fun q => stN a b c q.path)
    rw [List.length_map] at hz
    refine Ok_ite (fun _ => Ok_ix (by omega) hlt (fun y hy => ?_)) (fun h => absurd hlt h)
    obtain rfl := hget y hy
    rw [hw]
    refine Ok_ob1 ((findX_ok hn (by omega)).mono (fun i hi => Ok_ob1 ((findX_ok hn (by omega)).mono (fun j hj => Ok_ob1 ((findX_ok hn (by omega)).mono (fun k hk => ?_))))))
    refine Ok_cl1 (code_ok hi hj) (Ok_cl1 (code_ok hj hk) (Ok_nm ?_))
    have hnx : nzC (stN a b c x.path) = true ↔ (¬ (codeV true (findF a x.path) (findF b x.path)) = 0) ∨ ¬ (codeV false (findF b x.path) (findF c x.path)) = 0 := by
      unfold nzC stN; rw [decide_eq_true_eq]
    refine Ok_iteO (fun h => Ok_apd (by omega) (ih _ ?_)) (fun h1 h2 => ih _ ?_)
    · rw [List.map_append, List.filter_append]
      congr 1
      rw [List.map_singleton, List.filter_cons, if_pos (hnx.2 h)]; rfl
    · rw [List.map_append, List.filter_append, List.map_singleton, List.filter_cons, if_neg (fun h => (hnx.1 h).elim h1 h2)]; simp
  · exact Ok_ite (fun h => absurd h (by omega)) (fun _ => Ok.some' (hQ _ (Ok.some' hI)))
end
end Go.Proofs.Qxb6500350aGreat
