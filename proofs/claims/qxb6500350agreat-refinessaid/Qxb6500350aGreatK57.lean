/- PLAIN LAW: THE INDEX (8): STATUS. -/
import Derived.Test.Qxb6500350aGreatK56
import Derived.Test.Qxb6500350aGreatT179
set_option linter.unusedVariables false
set_option linter.unusedSimpArgs false
set_option maxHeartbeats 2000000
namespace Go.Proofs.Qxb6500350aGreat
open Go.Eng Go
/-- l is cut where the walk stands: done are the paths behind, rest those ahead -/
structure CutL (l : List File) (done rest : List Str) (l1 l2 : List File) : Prop where
  eq : l = l1 ++ l2
  lo : ∀ f, f ∈ l1 → f.path ∈ done
  hi : ∀ f, f ∈ l2 → f.path ∈ rest
section
variable {l l1 l2 : List File} {done rest : List Str} {p : Str}
theorem CutL.zero (h : ∀ f, f ∈ l → f.path ∈ rest) : CutL l [] rest [] l := ⟨rfl, by simp, h⟩
theorem cut_hit {f : File} {t : List File} (h : CutL l done (p :: rest) l1 (f :: t)) (hs : l.Pairwise fun a b => sLt a.path b.path = true) (hr : (done ++ p :: rest).Pairwise fun a b => sLt a b = true) (he : f.path = p) : findF l p = some f ∧ CutL l (done ++ [p]) rest (l1 ++ [f]) t := by
  have hdp : ∀ q, q ∈ done → sLt q p = true := fun q hq => (List.pairwise_append.1 hr).2.2 q hq p (by simp)
  rw [h.eq] at hs
  have hft := (List.pairwise_cons.1 (List.pairwise_append.1 hs).2.1).1
  constructor
  · unfold findF
    rw [h.eq, List.find?_append, List.find?_eq_none.2 (fun g hg => by
      have := sLt_ne (hdp _ (h.lo g hg))
      simpa using this)]
    simp [he]
  · refine ⟨by rw [h.eq]; simp, fun g hg => ?_, fun g hg => ?_⟩
    · rcases List.mem_append.1 hg with hg | hg
      · exact List.mem_append_left _ (h.lo g hg)
      · rw [List.mem_singleton.1 hg, he]; simp
    · have := h.hi g (List.mem_cons_of_mem _ hg)
      rcases List.mem_cons.1 this with e | e
      · have := hft g hg; rw [he, e, sLt_irrefl] at this; cases this
      · exact e
theorem cut_miss (h : CutL l done (p :: rest) l1 l2) (hs : l.Pairwise fun a b => sLt a.path b.path = true) (hr : (done ++ p :: rest).Pairwise fun a b => sLt a b = true) (he : ∀ f t, l2 = f :: t → f.path ≠ p) : findF l p = none ∧ CutL l (done ++ [p]) rest l1 l2 := by
  have hdp : ∀ q, q ∈ done → sLt q p = true := fun q hq => (List.pairwise_append.1 hr).2.2 q hq p (by simp)
  have hpr : ∀ q, q ∈ rest → sLt p q = true := (List.pairwise_cons.1 (List.pairwise_append.1 hr).2.1).1
  rw [h.eq] at hs
  have hno : ∀ f, f ∈ l2 → f.path ∈ rest := by
    intro f hf
    rcases List.mem_cons.1 (h.hi f hf) with e | e
    · exfalso
      cases l2 with
      | nil => cases hf
      | cons g t =>
        rcases List.mem_cons.1 hf with rfl | hf
        · exact he f t rfl e
        · have h1 := (List.pairwise_cons.1 (List.pairwise_append.1 hs).2.1).1 f hf
          rcases List.mem_cons.1 (h.hi g (by simp)) with e2 | e2
          · exact he g t rfl e2
          · have h2 := hpr _ e2
            rw [e] at h1
            rw [sLt_asymm h1] at h2; cases h2
    · exact e
  constructor
  · refine findF_none.2 fun f hf => ?_
    rw [h.eq] at hf
    rcases List.mem_append.1 hf with hf | hf
    · exact sLt_ne (hdp _ (h.lo f hf))
    · exact fun e => by have := hpr _ (hno f hf); rw [e, sLt_irrefl] at this; cases this
  · exact ⟨h.eq, fun f hf => List.mem_append_left _ (h.lo f hf), hno⟩
/-- the head of what is ahead is not below p -/
theorem cut_head (h : CutL l done (p :: rest) l1 l2) (hr : (done ++ p :: rest).Pairwise fun a b => sLt a b = true) {f : File} {t : List File} (e : l2 = f :: t) : f.path = p ∨ sLt p f.path = true := by
  have hpr : ∀ q, q ∈ rest → sLt p q = true := (List.pairwise_cons.1 (List.pairwise_append.1 hr).2.1).1
  rcases List.mem_cons.1 (h.hi f (by rw [e]; simp)) with e2 | e2
  · exact .inl e2
  · exact .inr (hpr _ e2)
/-- a list that holds p holds it ahead, first -/
theorem cut_has (h : CutL l done (p :: rest) l1 l2) (hs : l.Pairwise fun a b => sLt a.path b.path = true) (hr : (done ++ p :: rest).Pairwise fun a b => sLt a b = true) {g : File} (hg : g ∈ l) (hp : g.path = p) : ∃ t, l2 = g :: t := by
  have hdp : ∀ q, q ∈ done → sLt q p = true := fun q hq => (List.pairwise_append.1 hr).2.2 q hq p (by simp)
  have hg2 : g ∈ l2 := by
    rw [h.eq] at hg
    refine (List.mem_append.1 hg).resolve_left (fun hg => ?_)
    have := hdp _ (h.lo g hg)
    rw [hp, sLt_irrefl] at this; cases this
  cases l2 with
  | nil => cases hg2
  | cons f t =>
    rcases List.mem_cons.1 hg2 with rfl | hg2
    · exact ⟨t, rfl⟩
    · rw [h.eq] at hs
      have h1 := (List.pairwise_cons.1 (List.pairwise_append.1 hs).2.1).1 g hg2
      rw [hp] at h1
      rcases cut_head h hr rfl with e | e
      · rw [e, sLt_irrefl] at h1; cases h1
      · rw [sLt_asymm e] at h1; cases h1
end
/-- a position in a list as a suffix -/
theorem suf_ix {α : Type} {l l1 l2 : List α} (h : l = l1 ++ l2) : ((l1.length : Int) < l.length ↔ l2 ≠ []) ∧ ∀ f t, l2 = f :: t → ∀ x, l[(l1.length : Int).toNat]? = some x → f = x := by
  subst h
  constructor
  · cases l2 with
    | nil => simp
    | cons a r => simp; omega
  · rintro f t rfl x hx
    rw [Int.toNat_natCast, List.getElem?_append_right (Nat.le_refl _), Nat.sub_self] at hx
    simpa using hx
section
variable {n : Nat}
theorem holds_x {r : Row_} {data : Str} (hn : 100000 ≤ n) (hs : r.size = r.f.data.length) (hh : r.hash = hv r.f.data) (hl : data.length ≤ 1000) : m250 n r data = some (decide (r.f.data = data)) := by
  refine Ok.eq ?_
  unfold m250
  refine Ok_ite (fun e => Ok.some' (decide_eq_false (fun e2 => e (by rw [hs, e2]))).symm) (fun _ => Ok_cl1 (hashX_ok hn (by omega)) (Ok_ite (fun e => Ok.some' (decide_eq_false (fun e2 => e (by rw [hh, e2]))).symm) (fun _ => Ok.some' rfl)))
def codeOfV (b w a : Bool) : Int := if b && w then (if a then 0 else 2) else if w then 1 else if b then 3 else 0
theorem codeOf_ok {b w a : Bool} : m251 n b w a = some (codeOfV b w a) := by
  refine Ok.eq ?_
  unfold m251 codeOfV
  refine Ok_cond (fun e => ?_) (fun e => ?_)
  · rw [if_pos e]
    exact Ok_cond (fun e2 => Ok.some' (by rw [if_pos e2])) (fun e2 => Ok.some' (by rw [if_neg (by rw [e2]; decide)]))
  · rw [if_neg (by rw [e]; decide)]
    refine Ok_cond (fun e2 => Ok.some' (by rw [if_pos e2])) (fun e2 => ?_)
    rw [if_neg (by rw [e2]; decide)]
    exact Ok_cond (fun e3 => Ok.some' (by rw [if_pos e3])) (fun e3 => Ok.some' (by rw [if_neg (by rw [e3]; decide)]))
theorem upaths_mem {a b c : List File} {p : Str} : (∃ x, x ∈ upaths a b c ∧ x.path = p) ↔ (∃ x, x ∈ a ∧ x.path = p) ∨ (∃ x, x ∈ b ∧ x.path = p) ∨ ∃ x, x ∈ c ∧ x.path = p := by
  unfold upaths
  have s1 : (addP [] a).Pairwise fun a b => sLt a.path b.path = true := addP_srt a [] .nil
  have s2 := addP_srt b _ s1
  rw [addP_mem c _ s2, addP_mem b _ s1, addP_mem a [] .nil, or_assoc, or_assoc]
  simp
theorem upaths_srt (a b c : List File) : ((upaths a b c).map (·.path)).Pairwise fun a b => sLt a b = true := by
  rw [List.pairwise_map]
  exact addP_srt c _ (addP_srt b _ (addP_srt a [] .nil))
/-- q is the least of the paths so far, if there is one -/
def MinP (b : Bool) (q : Str) (cs : List Str) : Prop := (b = false ∧ cs = []) ∨ (b = true ∧ q ∈ cs ∧ ∀ c, c ∈ cs → sLe q c)
def hdP (l : List File) : List Str := match l with | [] => [] | f :: _ => [f.path]
theorem minP_add {b : Bool} {q : Str} {cs : List Str} {f : File} (h : MinP b q cs) (hlt : b = false ∨ sLt f.path q = true) : MinP true f.path (cs ++ [f.path]) := by
  refine .inr ⟨rfl, by simp, fun c hc => ?_⟩
  rcases List.mem_append.1 hc with hc | hc
  · rcases h with ⟨_, rfl⟩ | ⟨hb, _, hm⟩
    · cases hc
    · have hlt := hlt.resolve_left (by rw [hb]; decide)
      exact sLe_of_lt (sLt_of_lt_le hlt (hm c hc))
  · rw [List.mem_singleton.1 hc]; exact sLt_irrefl _
theorem minP_keep {b : Bool} {q : Str} {cs : List Str} {f : File} (h : MinP b q cs) (hb : b = true) (hlt : sLt f.path q = false) : MinP true q (cs ++ [f.path]) := by
  rcases h with ⟨hb2, _⟩ | ⟨_, hq, hm⟩
  · rw [hb] at hb2; cases hb2
  · refine .inr ⟨rfl, List.mem_append_left _ hq, fun c hc => ?_⟩
    rcases List.mem_append.1 hc with hc | hc
    · exact hm c hc
    · rw [List.mem_singleton.1 hc]; exact hlt
/-- one list's step of the walk -/
structure StepL (l : List File) (done rest : List Str) (p : Str) (l1 l2 : List File) (b : Bool) (l1' l2' : List File) : Prop where
  cut : CutL l (done ++ [p]) rest l1' l2'
  tt : b = true → ∃ f, findF l p = some f ∧ l2 = f :: l2' ∧ (l1'.length : Int) = l1.length + 1
  ff : b = false → findF l p = none ∧ l1' = l1 ∧ l2' = l2
theorem flag_step {l l1 l2 : List File} {done rest : List Str} {p : Str} (h : CutL l done (p :: rest) l1 l2) (hs : l.Pairwise fun a b => sLt a.path b.path = true) (hr : (done ++ p :: rest).Pairwise fun a b => sLt a b = true) :
    Ok (cond (decide ((l1.length : Int) < (l.length : Int))) (Option.bind (ixL l l1.length) fun x6 => some ((decide (x6.path = p)))) (some (false))) (fun b => ∃ l1' l2', StepL l done rest p l1 l2 b l1' l2') := by
  obtain ⟨g1, g2⟩ := suf_ix h.eq
  have miss : (∀ f t, l2 = f :: t → f.path ≠ p) → ∃ l1' l2', StepL l done rest p l1 l2 false l1' l2' := fun hm => by
    obtain ⟨m1, m2⟩ := cut_miss h hs hr hm
    exact ⟨l1, l2, m2, (fun e => nomatch e), (fun _ => ⟨m1, rfl, rfl⟩)⟩
  refine Ok_ite (fun hc => Ok_ix (by omega) hc (fun x hx => Ok.some' ?_)) (fun hc => Ok.some' (miss (fun f t e => absurd (g1.2 (by rw [e]; simp)) hc)))
  cases l2 with
  | nil => exact absurd rfl (g1.1 hc)
  | cons f t =>
    obtain rfl := g2 f t rfl x hx
    by_cases e : f.path = p
    · rw [decide_eq_true e]
      obtain ⟨m1, m2⟩ := cut_hit h hs hr e
      exact ⟨l1 ++ [f], t, m2, fun _ => ⟨f, m1, rfl, by simp⟩, fun e => nomatch e⟩
    · rw [decide_eq_false e]
      exact miss (fun f' t' e' => by rw [← (List.cons.inj e').1]; exact e)
theorem codeOf_stage {oa ob : Option File} {a b al : Bool} {wm : Bool} (ha : (a = true ↔ oa ≠ none)) (hb : (b = true ↔ ob ≠ none)) (hal : ∀ x y, oa = some x → ob = some y → (al = true ↔ ¬ (x.data ≠ y.data ∨ (wm = true ∧ x.mode ≠ y.mode)))) : codeOfV a b al = codeV wm oa ob := by
  unfold codeOfV
  cases oa with
  | none =>
    have : a = false := by rw [← Bool.not_eq_true]; exact fun e => ha.1 e rfl
    subst this
    cases ob with
    | none =>
      have : b = false := by rw [← Bool.not_eq_true]; exact fun e => hb.1 e rfl
      subst this; rfl
    | some y =>
      have : b = true := hb.2 (by simp)
      subst this; rfl
  | some x =>
    have : a = true := ha.2 (by simp)
    subst this
    cases ob with
    | none =>
      have : b = false := by rw [← Bool.not_eq_true]; exact fun e => hb.1 e rfl
      subst this; rfl
    | some y =>
      have : b = true := hb.2 (by simp)
      subst this
      have := hal x y rfl rfl
      show (if (true && true) = true then (if al = true then 0 else 2) else _) = if x.data ≠ y.data ∨ (wm = true ∧ x.mode ≠ y.mode) then 2 else 0
      by_cases e : x.data ≠ y.data ∨ (wm = true ∧ x.mode ≠ y.mode)
      · rw [if_pos e, if_neg (fun h => this.1 h e)]; rfl
      · rw [if_neg e, if_pos (this.2 e)]; rfl
theorem status_x {x : Index} {fs head work : List File} (hn : 100010 ≤ n) (h : XF x fs) (hh : Law head) (hw : Law work) : m179 n x head work = some (statusN head fs work, 0) := by
  have hl := h.law
  obtain ⟨R, r1, r2, r3⟩ := rows_x hn h
  have hnh := hh.num
  have hnw := hw.num
  have hnf := hl.num
  have hRl : R.length = fs.length := by rw [← r2, List.length_map]
  refine Ok.eq ?_
  unfold m179
  refine Ok_cl1 (checkFiles_ok (by omega)) ?_
  rw [chkF_iff.2 hh]
  refine Ok_ite (fun e => absurd rfl e) (fun _ => Ok_cl1 (checkFiles_ok (by omega)) ?_)
  rw [chkF_iff.2 hw]
  refine Ok_ite (fun e => absurd rfl e) (fun _ => Ok_cl1 r1 (Ok_ob4 ?_))
  generalize hPU : (upaths head fs work).map (·.path) = PU
  have hsrt : PU.Pairwise fun a b => sLt a b = true := by rw [← hPU]; exact upaths_srt head fs work
  have hPUm : ∀ p, p ∈ PU ↔ (∃ x, x ∈ head ∧ x.path = p) ∨ (∃ x, x ∈ fs ∧ x.path = p) ∨ ∃ x, x ∈ work ∧ x.path = p := fun p => by
    rw [← hPU, List.mem_map, ← upaths_mem]
  have hPUl : PU.length ≤ 24 := by
    rw [← hPU, List.length_map]
    have l1 := addP_len head []
    have l2 := addP_len fs (addP [] head)
    have l3 := addP_len work (addP (addP [] head) fs)
    simp only [List.length_nil] at l1
    unfold upaths; omega
  unfold m179_w1
  refine Ok_it4 (fun (out : List Chg) (c3 c4 c5 : Int) => ∃ done rest h1 h2 i1 i2 w1 w2, PU = done ++ rest ∧ out = (done.map (stN head fs work)).filter nzC ∧ CutL head done rest h1 h2 ∧ CutL fs done rest i1 i2 ∧ CutL work done rest w1 w2 ∧ c3 = h1.length ∧ c4 = i1.length ∧ c5 = w1.length ∧ (PU.length : Int) - rest.length = done.length)
    (fun _ (c3 c4 c5 : Int) => (((head.length : Int) - c3) + ((fs.length : Int) - c4) + ((work.length : Int) - c5)).toNat) ?_ n [] 0 0 0 ⟨[], PU, [], head, [], fs, [], work, rfl, rfl, .zero (fun f hf => (hPUm _).2 (.inl ⟨f, hf, rfl⟩)), .zero (fun f hf => (hPUm _).2 (.inr (.inl ⟨f, hf, rfl⟩))), .zero (fun f hf => (hPUm _).2 (.inr (.inr ⟨f, hf, rfl⟩))), rfl, rfl, rfl, by simp⟩ (by show (((head.length : Int) - 0) + ((fs.length : Int) - 0) + ((work.length : Int) - 0)).toNat < n; omega)
  rintro Q lp out c3 c4 c5 hQ ⟨done, rest, h1, h2, i1, i2, w1, w2, hpr, rfl, ch, ci, cw, rfl, rfl, rfl, hdl⟩ ih
  have hh1 := suf_ix ch.eq
  have hi1 := suf_ix ci.eq
  have hw1 := suf_ix cw.eq
  rw [hRl]
  cases rest with
  | nil =>
    have e1 : h2 = [] := by cases h2 with | nil => rfl | cons f t => have := ch.hi f (by simp); cases this
    have e2 : i2 = [] := by cases i2 with | nil => rfl | cons f t => have := ci.hi f (by simp); cases this
    have e3 : w2 = [] := by cases w2 with | nil => rfl | cons f t => have := cw.hi f (by simp); cases this
    have g1 : ¬ (h1.length : Int) < head.length := fun hc => hh1.1.1 hc e1
    have g2 : ¬ (i1.length : Int) < fs.length := fun hc => hi1.1.1 hc e2
    have g3 : ¬ (w1.length : Int) < work.length := fun hc => hw1.1.1 hc e3
    rw [decide_eq_false g1, decide_eq_false g2, decide_eq_false g3]
    refine Ok_cond (fun e => nomatch e) (fun _ => Ok.some' (hQ _ (Ok.some' ?_)))
    rw [List.append_nil] at hpr
    show ((done.map (stN head fs work)).filter nzC, (0 : Int)) = _
    rw [← hpr, ← hPU, List.map_map]; rfl
  | cons p rest =>
    have hrs : (done ++ p :: rest).Pairwise fun a b => sLt a b = true := by rw [← hpr]; exact hsrt
    have hRi : ∀ f t, i2 = f :: t → ∀ r, R[(i1.length : Int).toNat]? = some r → r.f = f ∧ r.size = f.data.length ∧ r.hash = hv f.data := by
      intro f t e r hr
      have hm : fs[(i1.length : Int).toNat]? = some r.f := by rw [← r2, List.getElem?_map, hr]; rfl
      have hf := hi1.2 f t e _ hm
      have := r3 r (List.mem_of_getElem? hr)
      rw [← hf] at this
      exact ⟨hf.symm, this.1, this.2⟩
    have hsome : h2 ≠ [] ∨ i2 ≠ [] ∨ w2 ≠ [] := by
      have hp : p ∈ PU := by rw [hpr]; simp
      rcases (hPUm p).1 hp with ⟨g, hg, e⟩ | ⟨g, hg, e⟩ | ⟨g, hg, e⟩
      · obtain ⟨t, ht⟩ := cut_has ch hh.srt hrs hg e; exact .inl (by rw [ht]; simp)
      · obtain ⟨t, ht⟩ := cut_has ci hl.srt hrs hg e; exact .inr (.inl (by rw [ht]; simp))
      · obtain ⟨t, ht⟩ := cut_has cw hw.srt hrs hg e; exact .inr (.inr (by rw [ht]; simp))
    have hcond : (((decide ((h1.length : Int) < (head.length : Int))) || (decide ((i1.length : Int) < (fs.length : Int)))) || (decide ((w1.length : Int) < (work.length : Int)))) = true := by
      rw [Bool.or_eq_true, Bool.or_eq_true, decide_eq_true_eq, decide_eq_true_eq, decide_eq_true_eq]
      rcases hsome with e | e | e
      · exact .inl (.inl (hh1.1.2 e))
      · exact .inl (.inr (hi1.1.2 e))
      · exact .inr (hw1.1.2 e)
    rw [hcond]
    refine Ok_cond (fun _ => ?_) (fun e => nomatch e)
    have f1 : Ok (cond (decide ((h1.length : Int) < (head.length : Int))) (Option.bind (ixL head h1.length) fun x1 => some (x1.path, true)) (some ([], false))) (fun r => MinP r.2 r.1 (hdP h2)) := by
      refine Ok_ite (fun hc => Ok_ix (by omega) hc (fun y hy => Ok.some' ?_)) (fun hc => Ok.some' (.inl ⟨rfl, ?_⟩))
      · cases h2 with
        | nil => exact absurd rfl (hh1.1.1 hc)
        | cons f t =>
          obtain rfl := hh1.2 f t rfl y hy
          exact .inr ⟨rfl, by simp [hdP], fun c hcc => by rw [List.mem_singleton.1 hcc]; exact sLt_irrefl _⟩
      · cases h2 with
        | nil => rfl
        | cons f t => exact absurd (hh1.1.2 (by simp)) hc
    refine Ok_ob2 (f1.mono (fun r9 hr9 => ?_))
    obtain ⟨c9, c10⟩ := r9
    have hr9 : MinP c10 c9 (hdP h2) := hr9
    have f2 : Ok (cond (decide ((i1.length : Int) < (fs.length : Int))) (cond (!c10) (some (true)) (Option.bind (ixL R i1.length) fun x2 => some ((sLt x2.f.path c9)))) (some (false))) (fun b => (b = true → ∃ f t, i2 = f :: t ∧ (c10 = false ∨ sLt f.path c9 = true)) ∧ (b = false → i2 = [] ∨ (c10 = true ∧ ∃ f t, i2 = f :: t ∧ sLt f.path c9 = false))) := by
      refine Ok_ite (fun hc => ?_) (fun hc => Ok.some' ⟨(fun e => nomatch e), (fun _ => .inl ?_)⟩)
      · cases i2 with
        | nil => exact absurd rfl (hi1.1.1 hc)
        | cons f t =>
          refine Ok_iteN (fun e => Ok.some' ⟨(fun _ => ⟨f, t, rfl, .inl e⟩), (fun e => nomatch e)⟩) (fun e => Ok_ix (by omega) (by omega) (fun y hy => Ok.some' ?_))
          have hy1 := (hRi f t rfl y hy).1
          rw [hy1]
          exact ⟨(fun e2 => ⟨f, t, rfl, .inr e2⟩), (fun e2 => .inr ⟨e, f, t, rfl, e2⟩)⟩
      · cases i2 with
        | nil => rfl
        | cons f t => exact absurd (hi1.1.2 (by simp)) hc
    refine Ok_ob1 (f2.mono (fun c11 hc11 => ?_))
    have f3 : Ok (cond c11 (Option.bind (ixL R i1.length) fun x3 => some (x3.f.path, true)) (some (c9, c10))) (fun r => MinP r.2 r.1 (hdP h2 ++ hdP i2)) := by
      refine Ok_cond (fun e => ?_) (fun e => Ok.some' ?_)
      · obtain ⟨f, t, e1, e2⟩ := hc11.1 e
        have hc := hi1.1.2 (by rw [e1]; simp)
        refine Ok_ix (by omega) (by omega) (fun y hy => Ok.some' ?_)
        rw [(hRi f t e1 y hy).1, e1]
        exact minP_add hr9 e2
      · rcases hc11.2 e with e1 | ⟨e1, f, t, e2, e3⟩
        · rw [e1]; show MinP c10 c9 (hdP h2 ++ []); rw [List.append_nil]; exact hr9
        · rw [e2]; show MinP c10 c9 (hdP h2 ++ [f.path]); have := minP_keep hr9 e1 e3; rw [e1]; exact this
    refine Ok_ob2 (f3.mono (fun r12 hr12 => ?_))
    obtain ⟨c12, c13⟩ := r12
    have hr12 : MinP c13 c12 (hdP h2 ++ hdP i2) := hr12
    have f4 : Ok (cond (decide ((w1.length : Int) < (work.length : Int))) (cond (!c13) (some (true)) (Option.bind (ixL work w1.length) fun x4 => some ((sLt x4.path c12)))) (some (false))) (fun b => (b = true → ∃ f t, w2 = f :: t ∧ (c13 = false ∨ sLt f.path c12 = true)) ∧ (b = false → w2 = [] ∨ (c13 = true ∧ ∃ f t, w2 = f :: t ∧ sLt f.path c12 = false))) := by
      refine Ok_ite (fun hc => ?_) (fun hc => Ok.some' ⟨(fun e => nomatch e), (fun _ => .inl ?_)⟩)
      · cases w2 with
        | nil => exact absurd rfl (hw1.1.1 hc)
        | cons f t =>
          refine Ok_iteN (fun e => Ok.some' ⟨(fun _ => ⟨f, t, rfl, .inl e⟩), (fun e => nomatch e)⟩) (fun e => Ok_ix (by omega) hc (fun y hy => Ok.some' ?_))
          obtain rfl := hw1.2 f t rfl y hy
          exact ⟨(fun e2 => ⟨f, t, rfl, .inr e2⟩), (fun e2 => .inr ⟨e, f, t, rfl, e2⟩)⟩
      · cases w2 with
        | nil => rfl
        | cons f t => exact absurd (hw1.1.2 (by simp)) hc
    refine Ok_ob1 (f4.mono (fun c14 hc14 => ?_))
    -- the least of the three heads is p
    have hmin : ∀ (b : Bool) (q : Str), MinP b q (hdP h2 ++ hdP i2 ++ hdP w2) → q = p := by
      intro b q hq
      have hhd : ∀ {l l1 l2 : List File}, CutL l done (p :: rest) l1 l2 → ∀ c, c ∈ hdP l2 → c = p ∨ sLt p c = true := fun hcut c hcm => by
        rename_i l2
        cases l2 with
        | nil => cases hcm
        | cons f t => rw [List.mem_singleton.1 hcm]; exact cut_head hcut hrs rfl
      have hall : ∀ c, c ∈ hdP h2 ++ hdP i2 ++ hdP w2 → c = p ∨ sLt p c = true := fun c hcm => by
        rcases List.mem_append.1 hcm with hcm | hcm
        · rcases List.mem_append.1 hcm with hcm | hcm
          · exact hhd ch c hcm
          · exact hhd ci c hcm
        · exact hhd cw c hcm
      have hpin : p ∈ hdP h2 ++ hdP i2 ++ hdP w2 := by
        have hp : p ∈ PU := by rw [hpr]; simp
        rcases (hPUm p).1 hp with ⟨g, hg, e⟩ | ⟨g, hg, e⟩ | ⟨g, hg, e⟩
        · obtain ⟨t, ht⟩ := cut_has ch hh.srt hrs hg e; rw [ht]; simp [hdP, e]
        · obtain ⟨t, ht⟩ := cut_has ci hl.srt hrs hg e; rw [ht]; simp [hdP, e]
        · obtain ⟨t, ht⟩ := cut_has cw hw.srt hrs hg e; rw [ht]; simp [hdP, e]
      rcases hq with ⟨_, e⟩ | ⟨_, hqm, hle⟩
      · rw [e] at hpin; cases hpin
      · rcases hall q hqm with e | e
        · exact e
        · have := hle p hpin
          rw [sLe, e] at this; cases this
    have f5 : Ok (cond c14 (Option.bind (ixL work w1.length) fun x5 => some x5.path) (some c12)) (fun q => q = p) := by
      refine Ok_cond (fun e => ?_) (fun e => Ok.some' ?_)
      · obtain ⟨f, t, e1, e2⟩ := hc14.1 e
        have hc := hw1.1.2 (by rw [e1]; simp)
        refine Ok_ix (by omega) hc (fun y hy => Ok.some' ?_)
        obtain rfl := hw1.2 f t e1 y hy
        refine hmin true _ ?_
        rw [e1]; exact minP_add hr12 e2
      · rcases hc14.2 e with e1 | ⟨e1, f, t, e2, e3⟩
        · refine hmin c13 _ ?_
          rw [e1]; show MinP c13 c12 (hdP h2 ++ hdP i2 ++ []); rw [List.append_nil]; exact hr12
        · refine hmin true _ ?_
          rw [e2]; exact minP_keep hr12 e1 e3
    refine Ok_ob1 (f5.mono (fun c15 hc15 => ?_))
    subst hc15
    refine Ok_ob1 ((flag_step ch hh.srt hrs).mono (fun c16 hc16 => ?_))
    obtain ⟨h1', h2', s16⟩ := hc16
    have hixR : cond (decide ((i1.length : Int) < (fs.length : Int))) (Option.bind (ixL R i1.length) fun x7 => some ((decide (x7.f.path = c15)))) (some (false)) = cond (decide ((i1.length : Int) < (fs.length : Int))) (Option.bind (ixL fs i1.length) fun x7 => some ((decide (x7.path = c15)))) (some (false)) := by
      by_cases hc : (i1.length : Int) < fs.length
      · obtain ⟨y, hy, hy2⟩ := ixL_some (l := R) (i := (i1.length : Int)) (by omega) (by omega)
        obtain ⟨z, hz, hz2⟩ := ixL_some (l := fs) (i := (i1.length : Int)) (by omega) hc
        have : z = y.f := by rw [← r2, List.getElem?_map, hy] at hz; exact (Option.some.inj hz).symm
        rw [decide_eq_true hc, hy2, hz2, this]; rfl
      · rw [decide_eq_false hc]; rfl
    rw [hixR]
    refine Ok_ob1 ((flag_step ci hl.srt hrs).mono (fun c17 hc17 => ?_))
    obtain ⟨i1', i2', s17⟩ := hc17
    refine Ok_ob1 ((flag_step cw hw.srt hrs).mono (fun c18 hc18 => ?_))
    obtain ⟨w1', w2', s18⟩ := hc18
    have b16 : c16 = true ↔ findF head c15 ≠ none := ⟨fun e => by obtain ⟨f, e1, _⟩ := s16.tt e; rw [e1]; simp, fun e => by cases hb : c16 with | true => rfl | false => exact absurd (s16.ff hb).1 e⟩
    have b17 : c17 = true ↔ findF fs c15 ≠ none := ⟨fun e => by obtain ⟨f, e1, _⟩ := s17.tt e; rw [e1]; simp, fun e => by cases hb : c17 with | true => rfl | false => exact absurd (s17.ff hb).1 e⟩
    have b18 : c18 = true ↔ findF work c15 ≠ none := ⟨fun e => by obtain ⟨f, e1, _⟩ := s18.tt e; rw [e1]; simp, fun e => by cases hb : c18 with | true => rfl | false => exact absurd (s18.ff hb).1 e⟩
    have f19 : Ok (cond (c16 && c17) (Option.bind (ixL R i1.length) fun x9 => Option.bind (ixL head h1.length) fun x10 => ob1 (m250 n x9 x10.data) fun c20 => Option.bind (ixL head h1.length) fun x11 => Option.bind (ixL R i1.length) fun x12 => cond (decide (¬ (x11.mode = x12.f.mode))) (some false) (some c20)) (some false))
        (fun al => ∀ a b, findF head c15 = some a → findF fs c15 = some b → (al = true ↔ ¬ (a.data ≠ b.data ∨ (true = true ∧ a.mode ≠ b.mode)))) := by
      refine Ok_cond (fun e => ?_) (fun e => Ok.some' (fun a b ea eb => ?_))
      · rw [Bool.and_eq_true] at e
        obtain ⟨a, a1, a2, a3⟩ := s16.tt e.1
        obtain ⟨b, b1, b2, b3⟩ := s17.tt e.2
        have hca := hh1.1.2 (by rw [a2]; simp)
        have hcb := hi1.1.2 (by rw [b2]; simp)
        have ham : a ∈ head := (findF_some a1).1
        have hasz := hh.size a ham
        refine Ok_ix (by omega) (by omega) (fun y hy => Ok_ix (by omega) hca (fun z hz => ?_))
        obtain rfl := hh1.2 a h2' a2 z hz
        have hyr := hRi b i2' b2 y hy
        refine Ok_cl1 (holds_x (by omega) (by rw [hyr.1]; exact hyr.2.1) (by rw [hyr.1]; exact hyr.2.2) (by omega)) (Ok_ix (by omega) hca (fun z2 hz2 => Ok_ix (by omega) (by omega) (fun y2 hy2 => ?_)))
        obtain rfl := hh1.2 a h2' a2 z2 hz2
        obtain rfl : y = y2 := Option.some.inj (hy.symm.trans hy2)
        rw [hyr.1]
        refine Ok_ite (fun em => Ok.some' (fun a' b' ea eb => ?_)) (fun em => Ok.some' (fun a' b' ea eb => ?_))
        · rw [a1] at ea; rw [b1] at eb
          obtain rfl := Option.some.inj ea
          obtain rfl := Option.some.inj eb
          exact ⟨(fun e => nomatch e), (fun e => absurd (Or.inr ⟨rfl, em⟩) e)⟩
        · rw [a1] at ea; rw [b1] at eb
          obtain rfl := Option.some.inj ea
          obtain rfl := Option.some.inj eb
          rw [decide_eq_true_eq]
          exact ⟨fun e => fun hh => hh.elim (fun h => h e.symm) (fun h => em h.2), fun e => Classical.byContradiction (fun hne => e (.inl (fun h => hne h.symm)))⟩
      · exfalso
        have h1 := b16.2 (by rw [ea]; simp)
        have h2 := b17.2 (by rw [eb]; simp)
        rw [h1, h2] at e; cases e
    refine Ok_ob1 (f19.mono (fun c19 hc19 => ?_))
    have f21 : Ok (cond (c17 && c18) (Option.bind (ixL R i1.length) fun x13 => Option.bind (ixL work w1.length) fun x14 => ob1 (m250 n x13 x14.data) fun c22 => some c22) (some false)) (fun al => ∀ a b, findF fs c15 = some a → findF work c15 = some b → (al = true ↔ ¬ (a.data ≠ b.data ∨ (false = true ∧ a.mode ≠ b.mode)))) := by
      refine Ok_cond (fun e => ?_) (fun e => Ok.some' (fun a b ea eb => ?_))
      · rw [Bool.and_eq_true] at e
        obtain ⟨a, a1, a2, a3⟩ := s18.tt e.2
        obtain ⟨b, b1, b2, b3⟩ := s17.tt e.1
        have hca := hw1.1.2 (by rw [a2]; simp)
        have hcb := hi1.1.2 (by rw [b2]; simp)
        have ham : a ∈ work := (findF_some a1).1
        have hasz := hw.size a ham
        refine Ok_ix (by omega) (by omega) (fun y hy => Ok_ix (by omega) hca (fun z hz => ?_))
        obtain rfl := hw1.2 a w2' a2 z hz
        have hyr := hRi b i2' b2 y hy
        refine Ok_cl1 (holds_x (by omega) (by rw [hyr.1]; exact hyr.2.1) (by rw [hyr.1]; exact hyr.2.2) (by omega)) (Ok.some' (fun a' b' ea eb => ?_))
        rw [b1] at ea; rw [a1] at eb
        obtain rfl := Option.some.inj ea
        obtain rfl := Option.some.inj eb
        rw [hyr.1, decide_eq_true_eq]
        exact ⟨fun e => fun hh => hh.elim (fun h => h e) (fun h => nomatch h.1), fun e => Classical.byContradiction (fun hne => e (.inl hne))⟩
      · exfalso
        have h1 := b17.2 (by rw [ea]; simp)
        have h2 := b18.2 (by rw [eb]; simp)
        rw [h1, h2] at e; cases e
    refine Ok_ob1 (f21.mono (fun c21 hc21 => ?_))
    have hst1 := codeOf_stage (wm := true) b16 b17 hc19
    have hst2 := codeOf_stage (wm := false) b17 b18 hc21
    refine Ok_nm (Ok_cl1 codeOf_ok (Ok_nm (Ok_cl1 codeOf_ok (Ok_nm ?_))))
    rw [hst1, hst2]
    show Ok (cond ((decide (¬ ((stN head fs work c15).staged = 0))) || (decide (¬ ((stN head fs work c15).work = 0)))) (Option.bind (apd ((done.map (stN head fs work)).filter nzC) (stN head fs work c15)) _) _) Q
    have hdone : done.length ≤ 24 := by
      have := congrArg List.length hpr
      rw [List.length_append] at this; omega
    have hflt := List.length_filter_le nzC (done.map (stN head fs work))
    rw [List.length_map] at hflt
    have hnz : nzC (stN head fs work c15) = true ↔ ¬ ((stN head fs work c15).staged = 0) ∨ ¬ ((stN head fs work c15).work = 0) := by
      unfold nzC; rw [decide_eq_true_eq]
    have hsnoc : ((done ++ [c15]).map (stN head fs work)).filter nzC = (done.map (stN head fs work)).filter nzC ++ if nzC (stN head fs work c15) = true then [stN head fs work c15] else [] := by
      rw [List.map_append, List.filter_append]
      congr 1
      rw [List.map_singleton, List.filter_cons]
      split <;> rfl
    have hsteps : c16 = true ∨ c17 = true ∨ c18 = true := by
      have hp : c15 ∈ PU := by rw [hpr]; simp
      rcases (hPUm c15).1 hp with ⟨g, hg, e⟩ | ⟨g, hg, e⟩ | ⟨g, hg, e⟩
      · exact .inl (b16.2 (fun hh2 => findF_none.1 hh2 g hg e))
      · exact .inr (.inl (b17.2 (fun hh2 => findF_none.1 hh2 g hg e)))
      · exact .inr (.inr (b18.2 (fun hh2 => findF_none.1 hh2 g hg e)))
    have hb1 : (h1.length : Int) ≤ head.length := by have := congrArg List.length ch.eq; rw [List.length_append] at this; omega
    have hb2 : (i1.length : Int) ≤ fs.length := by have := congrArg List.length ci.eq; rw [List.length_append] at this; omega
    have hb3 : (w1.length : Int) ≤ work.length := by have := congrArg List.length cw.eq; rw [List.length_append] at this; omega
    have hb1' : (h1'.length : Int) ≤ head.length := by have := congrArg List.length s16.cut.eq; rw [List.length_append] at this; omega
    have hb2' : (i1'.length : Int) ≤ fs.length := by have := congrArg List.length s17.cut.eq; rw [List.length_append] at this; omega
    have hb3' : (w1'.length : Int) ≤ work.length := by have := congrArg List.length s18.cut.eq; rw [List.length_append] at this; omega
    have next : ∀ out', out' = ((done ++ [c15]).map (stN head fs work)).filter nzC → ((h1'.length : Int) + i1'.length + w1'.length > (h1.length : Int) + i1.length + w1.length) → Ok (lp out' h1'.length i1'.length w1'.length) Q := by
      intro out' ho hgt
      refine ih _ _ _ _ ⟨done ++ [c15], rest, h1', h2', i1', i2', w1', w2', by rw [hpr]; simp, ho, s16.cut, s17.cut, s18.cut, rfl, rfl, rfl, ?_⟩ (by omega)
      have := congrArg List.length hpr
      simp only [List.length_append, List.length_cons, List.length_nil] at this ⊢
      omega
    have hw16 : c16 = true → wi ((h1.length : Int) + 1) = h1'.length := fun e => by obtain ⟨f, _, _, e3⟩ := s16.tt e; rw [wi_e (by omega) (by omega), e3]
    have hw17 : c17 = true → wi ((i1.length : Int) + 1) = i1'.length := fun e => by obtain ⟨f, _, _, e3⟩ := s17.tt e; rw [wi_e (by omega) (by omega), e3]
    have hw18 : c18 = true → wi ((w1.length : Int) + 1) = w1'.length := fun e => by obtain ⟨f, _, _, e3⟩ := s18.tt e; rw [wi_e (by omega) (by omega), e3]
    have leaf : ∀ out', out' = ((done ++ [c15]).map (stN head fs work)).filter nzC → Ok (cond c16 (cond c17 (cond c18 (lp out' (wi ((h1.length : Int) + 1)) (wi ((i1.length : Int) + 1)) (wi ((w1.length : Int) + 1))) (lp out' (wi ((h1.length : Int) + 1)) (wi ((i1.length : Int) + 1)) w1.length)) (cond c18 (lp out' (wi ((h1.length : Int) + 1)) i1.length (wi ((w1.length : Int) + 1))) (lp out' (wi ((h1.length : Int) + 1)) i1.length w1.length)))
        (cond c17 (cond c18 (lp out' h1.length (wi ((i1.length : Int) + 1)) (wi ((w1.length : Int) + 1))) (lp out' h1.length (wi ((i1.length : Int) + 1)) w1.length)) (cond c18 (lp out' h1.length i1.length (wi ((w1.length : Int) + 1))) (lp out' h1.length i1.length w1.length)))) Q := by
      intro out' ho
      have nx := next out' ho
      cases e16 : c16 with
      | true =>
        obtain ⟨_, _, _, q16⟩ := s16.tt e16
        rw [hw16 e16]
        cases e17 : c17 with
        | true =>
          obtain ⟨_, _, _, q17⟩ := s17.tt e17
          rw [hw17 e17]
          cases e18 : c18 with
          | true => obtain ⟨_, _, _, q18⟩ := s18.tt e18; rw [hw18 e18]; exact nx (by omega)
          | false => obtain ⟨_, q18, _⟩ := s18.ff e18; subst q18; exact nx (by omega)
        | false =>
          obtain ⟨_, q17, _⟩ := s17.ff e17
          subst q17
          cases e18 : c18 with
          | true => obtain ⟨_, _, _, q18⟩ := s18.tt e18; rw [hw18 e18]; exact nx (by omega)
          | false => obtain ⟨_, q18, _⟩ := s18.ff e18; subst q18; exact nx (by omega)
      | false =>
        obtain ⟨_, q16, _⟩ := s16.ff e16
        subst q16
        cases e17 : c17 with
        | true =>
          obtain ⟨_, _, _, q17⟩ := s17.tt e17
          rw [hw17 e17]
          cases e18 : c18 with
          | true => obtain ⟨_, _, _, q18⟩ := s18.tt e18; rw [hw18 e18]; exact nx (by omega)
          | false => obtain ⟨_, q18, _⟩ := s18.ff e18; subst q18; exact nx (by omega)
        | false =>
          obtain ⟨_, q17, _⟩ := s17.ff e17
          subst q17
          cases e18 : c18 with
          | true => obtain ⟨_, _, _, q18⟩ := s18.tt e18; rw [hw18 e18]; exact nx (by omega)
          | false => rw [e16, e17, e18] at hsteps; rcases hsteps with e | e | e <;> cases e
    refine Ok_iteO (fun hz => Ok_apd (by omega) (leaf _ ?_)) (fun hz1 hz2 => leaf _ ?_)
    · rw [hsnoc, if_pos (hnz.2 hz)]
    · rw [hsnoc, if_neg (fun e => (hnz.1 e).elim hz1 hz2), List.append_nil]
end
end Go.Proofs.Qxb6500350aGreat
