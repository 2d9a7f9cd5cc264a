/- PLAIN LAW: THE REPOSITORY (1): THE WORKING FILES. -/
import Derived.Test.Qxb6500350aGreatK67
import Derived.Test.Qxb6500350aGreatT47
import Derived.Test.Qxb6500350aGreatT49
import Derived.Test.Qxb6500350aGreatT174
import Derived.Test.Qxb6500350aGreatT178
set_option linter.unusedVariables false
set_option linter.unusedSimpArgs false
set_option maxHeartbeats 2000000
namespace Go.Proofs.Qxb6500350aGreat
open Go.Eng Go
/-- the working files are w -/
structure Wk (r : RepoR) (w : List File) : Prop where
  n : r.n = w.length
  get : ∀ (i : Nat) f, w[i]? = some f → r.work i = f
/-- a sorted list cut at a path -/
structure CutW (w : List File) (p : Str) (w1 w2 : List File) : Prop where
  eq : w = w1 ++ w2
  lo : ∀ f, f ∈ w1 → sLt f.path p = true
  hi : ∀ f, f ∈ w2 → sLt f.path p = false
section
variable {n : Nat} {r : RepoR} {w w1 w2 : List File} {p : Str}
theorem withF_cut {f : File} (h : CutW w f.path w1 w2) : withF w f = w1 ++ withF w2 f := by
  obtain ⟨rfl, lo, _⟩ := h
  induction w1 with
  | nil => rfl
  | cons g t ih =>
    have hg := lo g (by simp)
    show (if sLt f.path g.path = true then _ else if f.path = g.path then _ else g :: withF (t ++ w2) f) = _
    rw [if_neg (by rw [sLt_asymm hg]; decide), if_neg (fun e => sLt_ne hg e.symm), ih (fun x hx => lo x (List.mem_cons_of_mem _ hx))]
    rfl
theorem CutW.find (h : CutW w p w1 w2) (hs : w.Pairwise fun a b => sLt a.path b.path = true) : (∃ f t, w2 = f :: t ∧ f.path = p ∧ findF w p = some f ∧ withoutF w p = w1 ++ t ∧ ∀ g : File, g.path = p → withF w g = w1 ++ g :: t) ∨ ((∀ f t, w2 = f :: t → f.path ≠ p) ∧ findF w p = none ∧ ∀ g : File, g.path = p → withF w g = w1 ++ g :: w2) := by
  have hlo : ∀ f, f ∈ w1 → f.path ≠ p := fun f hf => sLt_ne (h.lo f hf)
  have f1 : w1.find? (fun x => decide (x.path = p)) = none := List.find?_eq_none.2 (fun g hg => by simpa using hlo g hg)
  have e1 : w1.filter (fun x => decide (x.path ≠ p)) = w1 := List.filter_eq_self.2 (fun g hg => by simpa using hlo g hg)
  cases w2 with
  | nil =>
    refine .inr ⟨(fun f t e => nomatch e), ?_, fun g hg => ?_⟩
    · unfold findF; rw [h.eq, List.append_nil, f1]
    · subst hg; rw [withF_cut h]; rfl
  | cons f t =>
    have hft : ∀ x, x ∈ t → sLt f.path x.path = true := by
      rw [h.eq] at hs
      exact (List.pairwise_cons.1 (List.pairwise_append.1 hs).2.1).1
    by_cases e : f.path = p
    · have ht : ∀ x, x ∈ t → x.path ≠ p := fun x hx e2 => by have := hft x hx; rw [e, e2, sLt_irrefl] at this; cases this
      refine .inl ⟨f, t, rfl, e, ?_, ?_, fun g hg => ?_⟩
      · unfold findF; rw [h.eq, List.find?_append, f1]; simp [e]
      · unfold withoutF
        rw [h.eq, List.filter_append, e1, List.filter_cons, if_neg (by simp [e]), List.filter_eq_self.2 (fun g hg => by simpa using ht g hg)]
      · subst hg
        rw [withF_cut h]
        show w1 ++ (if sLt g.path f.path = true then _ else if g.path = f.path then g :: t else _) = _
        rw [e, if_neg (by rw [sLt_irrefl]; decide), if_pos rfl]
    · have hf : sLt p f.path = true := by
        rcases sLt_tri p f.path with h1 | h1 | h1
        · exact h1
        · exact absurd h1.symm e
        · rw [h.hi f (by simp)] at h1; cases h1
      refine .inr ⟨fun f' t' e' => by rw [← (List.cons.inj e').1]; exact e, ?_, fun g hg => ?_⟩
      · rw [findF_none]
        intro g hg
        rw [h.eq] at hg
        rcases List.mem_append.1 hg with hg | hg
        · exact hlo g hg
        · rcases List.mem_cons.1 hg with rfl | hg
          · exact e
          · exact fun e2 => by have := hft g hg; rw [e2, sLt_asymm hf] at this; cases this
      · subst hg
        rw [withF_cut h]
        show w1 ++ (if sLt g.path f.path = true then g :: f :: t else _) = _
        rw [if_pos hf]
theorem Wk.at_ (h : Wk r w) {i : Nat} (hi : i < w.length) : ∃ f, w[i]? = some f ∧ r.work i = f := ⟨w[i], List.getElem?_eq_getElem hi, h.get i _ (List.getElem?_eq_getElem hi)⟩
theorem pairwise_get {α : Type} {R : α → α → Prop} {l : List α} (h : l.Pairwise R) {i j : Nat} {x y : α} (hij : i < j) (hx : l[i]? = some x) (hy : l[j]? = some y) : R x y := by
  obtain ⟨h1, rfl⟩ := List.getElem?_eq_some_iff.1 hx
  obtain ⟨h2, rfl⟩ := List.getElem?_eq_some_iff.1 hy
  exact List.pairwise_iff_getElem.1 h i j h1 h2 hij
theorem place_w (hn : 100000 ≤ n) (h : Wk r w) (hl : w.length ≤ 8) (hs : w.Pairwise fun a b => sLt a.path b.path = true) :
    Ok (m115 n r p) (fun q => ∃ w1 w2, CutW w p w1 w2 ∧ q.1 = w1.length ∧ (q.2 = true ↔ ∃ f t, w2 = f :: t ∧ f.path = p)) := by
  unfold m115
  refine Ok_ob2 ?_
  unfold m115_w1
  rw [h.n]
  refine Ok_it2 (fun (a b : Int) => 0 ≤ a ∧ a ≤ b ∧ b ≤ w.length ∧ (∀ (i : Nat) f, (i : Int) < a → w[i]? = some f → sLt f.path p = true) ∧ ∀ (i : Nat) f, b ≤ i → w[i]? = some f → sLt f.path p = false) (fun (a b : Int) => (b - a).toNat) ?_ n 0 _
    ⟨by omega, by omega, by omega, fun i f hi => by omega, fun i f hi hf => by have := (List.getElem?_eq_some_iff.1 hf).1; omega⟩ (by show ((w.length : Int) - 0).toNat < n; omega)
  rintro Q lp a b hQ ⟨h0, h1, h2, h3, h4⟩ ih
  refine Ok_ite (fun hlt => ?_) (fun hge => Ok.some' (hQ _ ?_))
  · have hmid : wi (Int.tdiv (wi (a + b)) 2) = (a + b) / 2 := by
      rw [wi_e (x := a + b) (by omega) (by omega), Int.tdiv_eq_ediv_of_nonneg (by omega), wi_e (by omega) (by omega)]
    rw [hmid]
    obtain ⟨k, hk⟩ : ∃ k : Nat, (a + b) / 2 = k := ⟨((a + b) / 2).toNat, by omega⟩
    rw [hk]
    obtain ⟨f, hf, hwf⟩ := h.at_ (i := k) (by omega)
    refine Ok_ck (by omega) (by omega) (Ok_cond (fun e => ?_) (fun e => ?_))
    · rw [wi_e (x := (k : Int) + 1) (by omega) (by omega)]
      rw [hwf] at e
      refine ih _ _ ⟨by omega, by omega, h2, fun i g hi hg => ?_, h4⟩ (by omega)
      by_cases ei : i = k
      · subst ei; rw [hf] at hg; rw [← Option.some.inj hg]; exact e
      · have gl : i < k := by omega
        exact sLt_trans (pairwise_get hs gl hg hf) e
    · rw [hwf] at e
      refine ih _ _ ⟨h0, by omega, by omega, h3, fun i g hi hg => ?_⟩ (by omega)
      by_cases ei : i = k
      · subst ei; rw [hf] at hg; rw [← Option.some.inj hg]; exact e
      · have gl : k < i := by omega
        have hlt2 := pairwise_get hs gl hf hg
        cases hc : sLt g.path p with
        | false => rfl
        | true => rw [sLt_trans hlt2 hc] at e; cases e
  · have hab : a = b := by omega
    subst hab
    dsimp only
    have hcut : CutW w p (w.take a.toNat) (w.drop a.toNat) := by
      refine ⟨(List.take_append_drop _ _).symm, fun f hf => ?_, fun f hf => ?_⟩
      · obtain ⟨i, hi⟩ := List.mem_iff_getElem?.1 hf
        have hi2 := (List.getElem?_eq_some_iff.1 hi).1
        rw [List.length_take] at hi2
        rw [List.getElem?_take_of_lt (by omega)] at hi
        exact h3 i f (by omega) hi
      · obtain ⟨i, hi⟩ := List.mem_iff_getElem?.1 hf
        rw [List.getElem?_drop] at hi
        exact h4 _ f (by omega) hi
    have hlen : a = (w.take a.toNat).length := by rw [List.length_take]; omega
    refine Ok_ob2 (Ok_ite (fun hlt => Ok_ck (by omega) (by omega) (Ok.some' (Ok.some' ⟨_, _, hcut, hlen, ?_⟩))) (fun hge => Ok.some' (Ok.some' ⟨_, _, hcut, hlen, ?_⟩)))
    · obtain ⟨k, rfl⟩ : ∃ k : Nat, a = k := ⟨a.toNat, by omega⟩
      obtain ⟨f, hf, hwf⟩ := h.at_ (i := k) (by omega)
      rw [hwf, Int.toNat_natCast, drop_cons hf]
      dsimp only
      rw [decide_eq_true_eq]
      exact ⟨fun e => ⟨f, _, rfl, e⟩, fun ⟨f', t, e, e2⟩ => by rw [(List.cons.inj e).1]; exact e2⟩
    · rw [List.drop_of_length_le (by omega)]
      exact ⟨fun e => (by cases e), fun ⟨f', t, e, e2⟩ => (by cases e)⟩
theorem workList_ok (hn : 100000 ≤ n) (h : Wk r w) (hl : w.length ≤ 8) : m178 n r = some w := by
  refine Ok.eq ?_
  unfold m178
  refine Ok_ob2 ?_
  unfold m178_w1
  rw [h.n]
  refine Ok_it2 (fun (l : List File) (c : Int) => ∃ i : Nat, c = i ∧ i ≤ w.length ∧ l = w.take i) (fun _ (c : Int) => ((w.length : Int) - c).toNat) ?_ n [] 0 ⟨0, rfl, by omega, rfl⟩ (by show ((w.length : Int) - 0).toNat < n; omega)
  rintro Q lp l c hQ ⟨i, rfl, h1, rfl⟩ ih
  refine Ok_ite (fun hlt => ?_) (fun hge => Ok.some' (hQ _ (Ok.some' ?_)))
  · obtain ⟨f, hf, hwf⟩ := h.at_ (i := i) (by omega)
    rw [wi_e (x := (i : Int) + 1) (by omega) (by omega), hwf]
    refine Ok_ck (by omega) (by omega) (Ok_apd (by rw [List.length_take]; omega) (ih _ _ ⟨i + 1, by omega, by omega, ?_⟩ (by omega)))
    rw [List.take_add_one, hf]; rfl
  · dsimp only; rw [List.take_of_length_le (by omega)]
theorem setWork_ok {l : List File} (hn : 100000 ≤ n) (hl : l.length ≤ 8) : Ok (m174 n r l) (fun r' => Wk r' (plainF l)) := by
  unfold m174
  have hpl : (plainF l).length = l.length := by unfold plainF; rw [List.length_map]
  refine Ok_nmz (fun z1 hz1 => Ok_ob2 ?_)
  unfold m174_w1
  refine Ok_it2 (fun (c : Int) (z : RepoR) => ∃ i : Nat, c = i ∧ i ≤ l.length ∧ z.n = i ∧ ∀ (j : Nat) f, j < i → (plainF l)[j]? = some f → z.work j = f) (fun (c : Int) _ => ((l.length : Int) - c).toNat) ?_ n 0 z1 ⟨0, rfl, by omega, by rw [hz1]; rfl, fun j f hj => by omega⟩ (by show ((l.length : Int) - 0).toNat < n; omega)
  rintro Q lp c z hQ ⟨i, rfl, h1, h2, h3⟩ ih
  refine Ok_ite2 (fun hlt h8 => Ok_ix (by omega) hlt (fun x hx => Ok_ix (by omega) hlt (fun y hy => ?_))) (fun hend => Ok.some' (hQ _ ?_))
  · rw [Int.toNat_natCast] at hx hy
    obtain rfl : x = y := Option.some.inj (hx.symm.trans hy)
    refine Ok_ck (by omega) (by omega) (Ok_nmz fun z6 e6 => Ok_nmz fun z7 e7 => ?_)
    subst e7 e6
    rw [wi_e (x := (i : Int) + 1) (by omega) (by omega)]
    refine ih _ _ ⟨i + 1, by omega, by omega, by show ((i : Int) + 1) = _; omega, fun j f hj hf => ?_⟩ (by omega)
    show upI z.work i _ j = f
    unfold upI
    by_cases e : j = i
    · subst e
      rw [if_pos rfl]
      unfold plainF at hf
      rw [List.getElem?_map, hx] at hf
      exact Option.some.inj hf
    · rw [if_neg (by omega)]; exact h3 j f (by omega) hf
  · dsimp only
    have hi : i = l.length := by by_cases h : (i : Int) < l.length; exact absurd (show (i : Int) < 8 by omega) (hend h); omega
    refine Ok_ob2 ?_
    unfold m174_w2
    rw [h2]
    refine Ok_it2 (fun (c : Int) (z' : RepoR) => (i : Int) ≤ c ∧ z'.n = i ∧ ∀ (j : Nat) f, j < i → (plainF l)[j]? = some f → z'.work j = f) (fun (c : Int) _ => (8 - c).toNat) ?_ n i z ⟨by omega, h2, h3⟩ (by show (8 - (i : Int)).toNat < n; omega)
    clear ih
    rintro Q2 lp2 c z' hQ2 ⟨g1, g2, g3⟩ ih2
    refine Ok_ite (fun hlt => Ok_ck (by omega) (by omega) (Ok_nmz fun z10 e10 => ?_)) (fun hge => Ok.some' (hQ2 _ (Ok.some' ⟨by rw [hpl, ← hi]; exact g2, fun j f hf => g3 j f ?_ hf⟩)))
    · subst e10
      rw [wi_e (x := c + 1) (by omega) (by omega)]
      refine ih2 _ _ ⟨by omega, g2, fun j f hj hf => ?_⟩ (by omega)
      show upI z'.work c _ j = f
      unfold upI
      rw [if_neg (by omega)]; exact g3 j f hj hf
    · have := (List.getElem?_eq_some_iff.1 hf).1; rw [hpl] at this; omega
/-- Write -/
def wrErr (w : List File) (p d : Str) : Int := if goodP p = false then 9 else if 180 < d.length then 4 else fitsV w p
theorem write_w {data : Str} (hn : 100000 ≤ n) (h : Wk r w) (hw : Law w) :
    Ok (m47 n r p data) (fun q => (wrErr w p data ≠ 0 ∧ q = (wrErr w p data, r)) ∨ (wrErr w p data = 0 ∧ q.1 = 0 ∧ Wk q.2 (withF w { path := p, data := data, mode := 0 }))) := by
  have hl := hw.num
  have hs := hw.srt
  unfold m47 wrErr
  refine Ok_cl1 (goodPath_ok hn) (Ok_iteN (fun e => ?_) (fun e => ?_))
  · rw [if_pos e]; exact Ok.some' (.inl ⟨by decide, rfl⟩)
  rw [if_neg (by rw [e]; decide)]
  refine Ok_ite (fun e2 => ?_) (fun e2 => ?_)
  · rw [if_pos (by omega)]; exact Ok.some' (.inl ⟨by decide, rfl⟩)
  rw [if_neg (by omega)]
  have hgl := goodP_len e
  refine Ok_flow ?_
  unfold m47_w1
  rw [h.n]
  refine Ok_it1 (fun (c : Int) => ∃ i : Nat, c = i ∧ i ≤ w.length ∧ ∀ (j : Nat) f, j < i → w[j]? = some f → clashP f.path p = false) (fun (c : Int) => ((w.length : Int) - c).toNat) ?_ n 0 ⟨0, rfl, by omega, fun j f hj => by omega⟩ (by show ((w.length : Int) - 0).toNat < n; omega)
  rintro Q lp c hQ ⟨i, rfl, h1, h2⟩ ih
  refine Ok_ite (fun hlt => ?_) (fun hge => Ok.some' (hQ _ ?_))
  · obtain ⟨f, hf, hwf⟩ := h.at_ (i := i) (by omega)
    have hfm := List.mem_of_getElem? hf
    have hfl := goodP_len (hw.good f hfm)
    rw [hwf]
    refine Ok_ck (by omega) (by omega) (Ok_cl1 (clash_ok (by omega) (by omega)) (Ok_cond (fun e3 => ?_) (fun e3 => ?_)))
    · have : fitsV w p = 12 := by unfold fitsV; rw [if_pos ⟨f, hfm, e3⟩]
      exact Ok_bs (Ok.some' (hQ _ (Ok.some' (.inl ⟨by rw [this]; decide, by rw [this]⟩))))
    · rw [wi_e (x := (i : Int) + 1) (by omega) (by omega)]
      refine ih _ ⟨i + 1, by omega, by omega, fun j g hj hg => ?_⟩ (by omega)
      by_cases ej : j = i
      · subst ej; rw [hf] at hg; rw [← Option.some.inj hg]; exact e3
      · exact h2 j g (by omega) hg
  · have hno : ¬ ∃ g, g ∈ w ∧ clashP g.path p = true := by
      rintro ⟨g, hg, hc⟩
      obtain ⟨j, hj⟩ := List.mem_iff_getElem?.1 hg
      have := (List.getElem?_eq_some_iff.1 hj).1
      rw [h2 j g (by omega) hj] at hc; cases hc
    clear ih
    show Ok (ob2 _ _) _
    refine Ok_ob2 ((place_w hn h hl hs).mono (fun q hq => ?_))
    obtain ⟨w1, w2, hc, hq1, hq2⟩ := hq
    have hlw : w.length = w1.length + w2.length := by rw [hc.eq, List.length_append]
    have gget : ∀ (i : Nat) f, (w1 ++ w2)[i]? = some f → r.work i = f := fun i f hf => h.get i f (by rw [hc.eq]; exact hf)
    rw [hq1]
    rcases hc.find hs with ⟨f, t, e3, e4, e5, _, e6⟩ | ⟨e3, e4, e5⟩
    · have hq2' := hq2.2 ⟨f, t, e3, e4⟩
      have hfv : fitsV w p = 0 := by unfold fitsV; rw [if_neg hno, if_neg (by rw [e5]; simp)]
      rw [hq2']
      subst e3
      rw [List.length_cons] at hlw
      refine Ok_cond (fun e => nomatch e) (fun _ => Ok_ck (by omega) (by omega) (Ok_nmz fun z6 hz6 => Ok.some' (.inr ⟨hfv, rfl, ?_⟩)))
      subst hz6
      rw [e6 _ rfl]
      refine ⟨by show (w.length : Int) = _; rw [hlw]; simp, fun i g hg => ?_⟩
      show upI r.work w1.length _ i = g
      unfold upI
      by_cases ei : i = w1.length
      · subst ei
        rw [if_pos rfl]
        rw [List.getElem?_append_right (Nat.le_refl _), Nat.sub_self] at hg
        exact Option.some.inj hg
      · rw [if_neg (by omega)]
        refine gget i g ?_
        rcases Nat.lt_or_gt_of_ne ei with hi | hi
        · rw [List.getElem?_append_left hi] at hg ⊢; exact hg
        · rw [List.getElem?_append_right (by omega)] at hg ⊢
          obtain ⟨k, hk⟩ : ∃ k, i - w1.length = k + 1 := ⟨i - w1.length - 1, by omega⟩
          rw [hk] at hg ⊢; exact hg
    · have hq2' : q.2 = false := by
        rw [← Bool.not_eq_true]; intro e
        obtain ⟨f, t, e6, e7⟩ := hq2.1 e
        exact e3 f t e6 e7
      rw [hq2']
      refine Ok_cond (fun _ => Ok_ite (fun h8 => Ok.some' ?_) (fun h8 => Ok_ob2 ?_)) (fun e => nomatch e)
      · have hfv : fitsV w p = 8 := by unfold fitsV; rw [if_neg hno, if_pos ⟨e4, by omega⟩]
        exact .inl ⟨by rw [hfv]; decide, by rw [hfv]⟩
      · have hfv : fitsV w p = 0 := by unfold fitsV; rw [if_neg hno, if_neg (by omega)]
        unfold m47_w2
        refine Ok_it2 (fun (c : Int) (z : RepoR) => ∃ k : Nat, c = k ∧ w1.length ≤ k ∧ k ≤ w.length ∧ z.n = w.length ∧ (∀ i : Nat, i < k → z.work i = r.work i) ∧ ∀ i : Nat, k < i → i ≤ w.length → z.work i = r.work ((i : Int) - 1)) (fun (c : Int) _ => (c - w1.length).toNat) ?_ n w.length r
          ⟨w.length, rfl, by omega, Nat.le_refl _, h.n, fun i hi => rfl, fun i hi hi2 => by omega⟩ (by show ((w.length : Int) - w1.length).toNat < n; omega)
        rintro Q2 lp2 c z hQ2 ⟨k, rfl, k1, k2, k3, k4, k5⟩ ih2
        refine Ok_ite (fun hlt => ?_) (fun hge => Ok.some' (hQ2 _ ?_))
        · rw [wi_e (x := (k : Int) - 1) (by omega) (by omega)]
          refine Ok_ck (by omega) (by omega) (Ok_ck (by omega) (by omega) (Ok_nmz fun z3 hz3 => ?_))
          subst hz3
          refine ih2 _ _ ⟨k - 1, by omega, by omega, by omega, k3, fun i hi => ?_, fun i hi hi2 => ?_⟩ (by omega)
          · show upI z.work k _ i = _
            unfold upI; rw [if_neg (by omega)]; exact k4 i (by omega)
          · show upI z.work k _ i = _
            unfold upI
            by_cases ei : i = k
            · subst ei; rw [if_pos rfl]
              have := k4 (i - 1) (by omega)
              rw [show ((i - 1 : Nat) : Int) = (i : Int) - 1 by omega] at this
              exact this
            · rw [if_neg (by omega)]; exact k5 i (by omega) hi2
        · have hk : k = w1.length := by omega
          subst hk
          dsimp only
          refine Ok_nmz (fun z4 hz4 => Ok_ck (by omega) (by omega) (Ok_nmz fun z5 hz5 => Ok.some' (.inr ⟨hfv, rfl, ?_⟩)))
          subst hz5 hz4
          rw [e5 _ rfl]
          refine ⟨?_, fun i g hg => ?_⟩
          · show wi (z.n + 1) = _
            rw [k3, wi_e (by omega) (by omega), List.length_append, List.length_cons]; omega
          · show upI z.work w1.length _ i = g
            unfold upI
            by_cases ei : i = w1.length
            · subst ei
              rw [if_pos rfl]
              rw [List.getElem?_append_right (Nat.le_refl _), Nat.sub_self] at hg
              exact Option.some.inj hg
            · rw [if_neg (by omega)]
              have hil := (List.getElem?_eq_some_iff.1 hg).1
              rw [List.length_append, List.length_cons] at hil
              rcases Nat.lt_or_gt_of_ne ei with hi | hi
              · rw [k4 i hi]
                rw [List.getElem?_append_left hi] at hg
                exact gget i g (by rw [List.getElem?_append_left hi]; exact hg)
              · rw [k5 i hi (by omega), show (i : Int) - 1 = ((i - 1 : Nat) : Int) by omega]
                rw [List.getElem?_append_right (by omega), show i - w1.length = (i - 1 - w1.length) + 1 by omega, List.getElem?_cons_succ] at hg
                exact gget (i - 1) g (by rw [List.getElem?_append_right (by omega)]; exact hg)
/-- Remove -/
theorem remove_w (hn : 100000 ≤ n) (h : Wk r w) (hl : w.length ≤ 8) (hs : w.Pairwise fun a b => sLt a.path b.path = true) :
    Ok (m49 n r p) (fun q => (findF w p = none ∧ q = (13, r)) ∨ (findF w p ≠ none ∧ q.1 = 0 ∧ Wk q.2 (withoutF w p))) := by
  unfold m49
  refine Ok_ob2 ((place_w hn h hl hs).mono (fun q hq => ?_))
  obtain ⟨w1, w2, hc, hq1, hq2⟩ := hq
  rw [hq1]
  have hlw : w.length = w1.length + w2.length := by rw [hc.eq, List.length_append]
  have gget : ∀ (i : Nat) f, (w1 ++ w2)[i]? = some f → r.work i = f := fun i f hf => h.get i f (by rw [hc.eq]; exact hf)
  rcases hc.find hs with ⟨f, t, e3, e4, e5, e6, _⟩ | ⟨e3, e4, e5⟩
  · rw [hq2.2 ⟨f, t, e3, e4⟩]
    subst e3
    rw [List.length_cons] at hlw
    rw [e6]
    refine Ok_cond (fun e => nomatch e) (fun _ => Ok_ob2 ?_)
    unfold m49_w1
    refine Ok_it2 (fun (c : Int) (z : RepoR) => ∃ k : Nat, c = k ∧ w1.length ≤ k ∧ k < w.length ∧ z.n = w.length ∧ (∀ i : Nat, i < w1.length → z.work i = r.work i) ∧ (∀ i : Nat, w1.length ≤ i → i < k → z.work i = r.work ((i : Int) + 1)) ∧ ∀ i : Nat, k ≤ i → z.work i = r.work i) (fun (c : Int) _ => ((w.length : Int) - c).toNat) ?_ n w1.length r
      ⟨w1.length, rfl, by omega, by omega, h.n, fun i hi => rfl, fun i hi hi2 => by omega, fun i hi => rfl⟩ (by show ((w.length : Int) - w1.length).toNat < n; omega)
    rintro Q2 lp2 c z hQ2 ⟨k, rfl, k1, k2, k3, k4, k5, k6⟩ ih2
    rw [wi_e (x := (k : Int) + 1) (by omega) (by omega), k3]
    refine Ok_ite (fun hlt => ?_) (fun hge => Ok.some' (hQ2 _ ?_))
    · refine Ok_ck (by omega) (by omega) (Ok_ck (by omega) (by omega) (Ok_nmz fun z3 hz3 => ?_))
      subst hz3
      refine ih2 _ _ ⟨k + 1, by omega, by omega, by omega, rfl, fun i hi => ?_, fun i hi hi2 => ?_, fun i hi => ?_⟩ (by omega)
      · show upI z.work k _ i = _
        unfold upI; rw [if_neg (by omega)]; exact k4 i hi
      · show upI z.work k _ i = _
        unfold upI
        by_cases ei : i = k
        · subst ei; rw [if_pos rfl]
          have := k6 (i + 1) (by omega)
          rw [show ((i + 1 : Nat) : Int) = (i : Int) + 1 by omega] at this
          exact this
        · rw [if_neg (by omega)]; exact k5 i hi (by omega)
      · show upI z.work k _ i = _
        unfold upI; rw [if_neg (by omega)]; exact k6 i (by omega)
    · dsimp only
      refine Ok_nmz (fun z4 hz4 => ?_)
      have hz4n : z4.n = (w.length : Int) - 1 := by
        subst hz4
        show wi (z.n - 1) = _
        rw [k3, wi_e (by omega) (by omega)]
      refine Ok_ck (by omega) (by omega) (Ok_nmz fun z5 hz5 => Ok.some' (.inr ⟨by rw [e5]; simp, rfl, ?_⟩))
      have hz4w : z4.work = z.work := by subst hz4; rfl
      subst hz5
      refine ⟨?_, fun i g hg => ?_⟩
      · show z4.n = _
        rw [hz4n, List.length_append]; omega
      · show upI z4.work z4.n _ i = g
        have hil := (List.getElem?_eq_some_iff.1 hg).1
        rw [List.length_append] at hil
        unfold upI
        rw [if_neg (by rw [hz4n]; omega), hz4w]
        rcases Nat.lt_or_ge i w1.length with hi | hi
        · rw [k4 i hi]
          rw [List.getElem?_append_left hi] at hg
          exact gget i g (by rw [List.getElem?_append_left hi]; exact hg)
        · rw [k5 i hi (by omega), show (i : Int) + 1 = ((i + 1 : Nat) : Int) by omega]
          rw [List.getElem?_append_right hi] at hg
          refine gget (i + 1) g ?_
          rw [List.getElem?_append_right (by omega), show i + 1 - w1.length = (i - w1.length) + 1 by omega, List.getElem?_cons_succ]
          exact hg
  · have hq2' : q.2 = false := by
      rw [← Bool.not_eq_true]; intro e
      obtain ⟨f, t, e6, e7⟩ := hq2.1 e
      exact e3 f t e6 e7
    rw [hq2']
    exact Ok_cond (fun _ => Ok.some' (.inl ⟨e4, rfl⟩)) (fun e => nomatch e)
end
end Go.Proofs.Qxb6500350aGreat
