/- PLAIN LAW: THE REPOSITORY (2): WHAT THE MODEL KEEPS; WHERE HEAD STANDS; CLEAN. -/
import Derived.Test.Qxb6500350aGreatK68
import Derived.Test.Qxb6500350aGreatT127
import Derived.Test.Qxb6500350aGreatT128
import Derived.Test.Qxb6500350aGreatT130
import Derived.Test.Qxb6500350aGreatT133
import Derived.Test.Qxb6500350aGreatT135
import Derived.Test.Qxb6500350aGreatT148
import Derived.Test.Qxb6500350aGreatT156
import Derived.Test.Qxb6500350aGreatT125
import Derived.Test.Qxb6500350aGreatT155
set_option linter.unusedVariables false
set_option linter.unusedSimpArgs false
set_option maxHeartbeats 2000000
namespace Go.Proofs.Qxb6500350aGreat
open Go.Eng Go
/-- the history of a model -/
def histOf (m : RepoM) : Hist := { nodes := m.nodes, nxt := m.nxt, refs := m.refs, head := m.head, aux := m.index }
/-- the commit that head stands on, or 0 -/
def atH (refs : List Ref_) (hd : Head) : Int := if hd.name = [] then hd.seq else match findR refs hd.name with | some r => r.seq | none => 0
def atM (m : RepoM) : Int := atH m.refs m.head
/-- the files of a commit -/
def snapN (l : List Node) (q : Int) : List File := match findN l q with | some x => x.files | none => []
/-- what a model keeps -/
structure MI (m : RepoM) : Prop where
  wn : WN m.nodes
  law : ∀ x, x ∈ m.nodes → Law x.files ∧ ∀ f, f ∈ x.files → f.mode = 0
  sq : ∀ x, x ∈ m.nodes → 1 ≤ x.seq ∧ x.seq < m.nxt
  nx : 1 ≤ m.nxt
  rl : m.refs.length ≤ 4
  rg : ∀ r, r ∈ m.refs → goodN r.name = true ∧ ∃ x, x ∈ m.nodes ∧ x.seq = r.seq
  hd : (m.head.name ≠ [] ∧ goodN m.head.name = true ∧ m.head.seq = 0) ∨ (m.head.name = [] ∧ ∃ x, x ∈ m.nodes ∧ x.seq = m.head.seq)
  mg : m.head.merge = 0 ∨ ∃ x, x ∈ m.nodes ∧ x.seq = m.head.merge
  mo : m.head.merge ≠ 0 → atM m ≠ 0 ∧ atM m ≠ m.head.merge
  ub : m.head.name ≠ [] → findR m.refs m.head.name = none → m.refs = []
  ix : Law m.index
  im : ∀ f, f ∈ m.index → f.mode = 0 ∨ (f.mode = 1 ∧ m.head.merge ≠ 0)
  wk : Law m.work
  wm : ∀ f, f ∈ m.work → f.mode = 0
/-- the system stands for the model -/
structure Sys (t : Trees) (s : Store) (d : Dev) (g : Graph) (x : Index) (r : RepoR) (A : Int → Ob) (root : Int) (ord : List Int) (K : Int → CI) (bs : List Brn) (m : RepoM) : Prop where
  gr : Gr t s d g A root ord K bs (histOf m)
  xf : XF x m.index
  wk : Wk r m.work
theorem findR_some {l : List Ref_} {q : Str} {x : Ref_} (h : findR l q = some x) : x ∈ l ∧ x.name = q := ⟨List.mem_of_find?_eq_some h, of_decide_eq_true (p := x.name = q) (List.find?_some (p := fun (y : Ref_) => decide (y.name = q)) h)⟩
theorem MI.at_node {m : RepoM} (h : MI m) : atM m = 0 ∨ ∃ x, x ∈ m.nodes ∧ x.seq = atM m := by
  unfold atM atH
  rcases h.hd with ⟨h1, h2, h3⟩ | ⟨h1, h2⟩
  · rw [if_neg h1]
    cases e : findR m.refs m.head.name with
    | none => exact .inl rfl
    | some r => exact .inr (h.rg r (findR_some e).1).2
  · rw [if_pos h1]; exact .inr h2
theorem MI.snap {m : RepoM} (h : MI m) (q : Int) : Law (snapN m.nodes q) ∧ ∀ f, f ∈ snapN m.nodes q → f.mode = 0 := by
  unfold snapN
  cases e : findN m.nodes q with
  | none => exact ⟨⟨by simp, by simp, by simp, by simp, .nil, .nil⟩, by simp⟩
  | some x => exact h.law x (findN_some e).1
theorem refs_srt {g : Graph} {ord : List Int} {K : Int → CI} {bs : List Brn} {refs : List Ref_} {hd : Head} (h : Cur g ord K bs refs hd) : refs.Pairwise fun a b => sLt a.name b.name = true := by
  rw [h.refs, List.pairwise_map]; exact h.bsrt
section
variable {n : Nat} {t : Trees} {s : Store} {d : Dev} {g : Graph} {x : Index} {r : RepoR} {A : Int → Ob} {root : Int} {ord : List Int} {K : Int → CI} {bs : List Brn} {m : RepoM} {H : Hist}
theorem seqOf_r {l : List Ref_} {p : Str} (hn : 100000 ≤ n) (hl : l.length ≤ 8) (hs : l.Pairwise fun a b => sLt a.name b.name = true) :
    m138 n l p = some (match findR l p with | some r => (r.seq, true) | none => (0, false)) := by
  refine Ok.eq ?_
  unfold m138
  refine Ok_ob2 ?_
  unfold m138_w1
  refine Ok_it2 (fun (a b : Int) => 0 ≤ a ∧ a ≤ b ∧ b ≤ l.length ∧ (∀ (i : Nat) f, (i : Int) < a → l[i]? = some f → sLt f.name p = true) ∧ ∀ (i : Nat) f, b ≤ i → l[i]? = some f → sLt f.name p = false) (fun (a b : Int) => (b - a).toNat) ?_ n 0 _
    ⟨by omega, by omega, by omega, fun i f hi => by omega, fun i f hi hf => by have := (List.getElem?_eq_some_iff.1 hf).1; omega⟩ (by show ((l.length : Int) - 0).toNat < n; omega)
  rintro Q lp a b hQ ⟨h0, h1, h2, h3, h4⟩ ih
  refine Ok_ite (fun hlt => ?_) (fun hge => Ok.some' (hQ _ ?_))
  · have hmid : wi (Int.tdiv (wi (a + b)) 2) = (a + b) / 2 := by
      rw [wi_e (x := a + b) (by omega) (by omega), Int.tdiv_eq_ediv_of_nonneg (by omega), wi_e (by omega) (by omega)]
    rw [hmid]
    obtain ⟨k, hk⟩ : ∃ k : Nat, (a + b) / 2 = k := ⟨((a + b) / 2).toNat, by omega⟩
    rw [hk]
    refine Ok_ix (by omega) (by omega) (fun f hf => ?_)
    rw [Int.toNat_natCast] at hf
    refine Ok_cond (fun e => ?_) (fun e => ?_)
    · rw [wi_e (x := (k : Int) + 1) (by omega) (by omega)]
      refine ih _ _ ⟨by omega, by omega, h2, fun i g hi hg => ?_, h4⟩ (by omega)
      by_cases ei : i = k
      · subst ei; rw [hf] at hg; rw [← Option.some.inj hg]; exact e
      · exact sLt_trans (pairwise_get hs (show i < k by omega) hg hf) e
    · refine ih _ _ ⟨h0, by omega, by omega, h3, fun i g hi hg => ?_⟩ (by omega)
      by_cases ei : i = k
      · subst ei; rw [hf] at hg; rw [← Option.some.inj hg]; exact e
      · have hlt2 := pairwise_get hs (show k < i by omega) hf hg
        cases hc : sLt g.name p with
        | false => rfl
        | true => rw [sLt_trans hlt2 hc] at e; cases e
  · have hab : a = b := by omega
    subst hab
    dsimp only
    obtain ⟨k, rfl⟩ : ∃ k : Nat, a = k := ⟨a.toNat, by omega⟩
    have low : ∀ (i : Nat) f, i < k → l[i]? = some f → f.name ≠ p := fun i f hi hf e => by have := h3 i f (by omega) hf; rw [e, sLt_irrefl] at this; cases this
    have find : ∀ f, l[k]? = some f → f.name = p → findR l p = some f := by
      intro f hf e
      unfold findR
      rw [List.find?_eq_some_iff_getElem]
      obtain ⟨hk, hfk⟩ := List.getElem?_eq_some_iff.1 hf
      exact ⟨decide_eq_true e, k, hk, hfk, fun j hj => by have := low j l[j] hj (List.getElem?_eq_getElem (by omega)); simpa using this⟩
    have none' : (∀ f, l[k]? = some f → f.name ≠ p) → findR l p = none := by
      intro hno
      unfold findR
      rw [List.find?_eq_none]
      intro f hf
      obtain ⟨i, hi⟩ := List.mem_iff_getElem?.1 hf
      rw [decide_eq_true_eq]
      rcases Nat.lt_trichotomy i k with h | h | h
      · exact low i f h hi
      · subst h; exact hno f hi
      · intro e
        have hil := (List.getElem?_eq_some_iff.1 hi).1
        have hkf : l[k]? = some l[k] := List.getElem?_eq_getElem (by omega)
        have h5 := pairwise_get hs h hkf hi
        have h6 := h4 k l[k] (Int.le_refl _) hkf
        rw [e] at h5; rw [h5] at h6; cases h6
    refine Ok_ob1 (Ok_ite (fun hlt => Ok_ix (by omega) hlt (fun f hf => Ok.some' ?_)) (fun hge => Ok.some' ?_))
    · rw [Int.toNat_natCast] at hf
      refine Ok_ite (fun e => Ok_ix (by omega) hlt (fun f' hf' => Ok.some' ?_)) (fun e => Ok.some' ?_)
      · rw [Int.toNat_natCast, hf] at hf'
        obtain rfl := Option.some.inj hf'
        rw [find f hf e]
      · rw [none' (fun f' hf' => by rw [hf] at hf'; rw [← Option.some.inj hf']; exact e)]
    · refine Ok_cond (fun e => nomatch e) (fun _ => Ok.some' ?_)
      rw [none' (fun f' hf' => by have := (List.getElem?_eq_some_iff.1 hf').1; omega)]
theorem at_r (hn : 100000 ≤ n) (h : Gm t s d g A root ord K bs H) : m127 n r g H.head = some (atH H.refs H.head) := by
  refine Ok.eq ?_
  unfold m127 atH
  refine Ok_ite (fun e => Ok.some' (by rw [if_pos e])) (fun e => ?_)
  rw [if_neg e]
  have hl : H.refs.length ≤ 4 := by rw [h.cur.refs, List.length_map]; exact h.cur.brs.le
  have := seqOf_r (p := H.head.name) hn (show H.refs.length ≤ 8 by omega) (refs_srt h.cur)
  refine Ok_cl1 (gbranches_ok hn h) ?_
  rw [this]
  cases findR H.refs H.head.name with
  | none => exact Ok.some' rfl
  | some r => exact Ok.some' rfl
theorem at_m (hn : 100000 ≤ n) (hl : m.refs.length < 100000) : m134 n m = some (atM m) := by
  refine Ok.eq ?_
  unfold m134 atM atH
  refine Ok_ite (fun e => Ok.some' (by rw [if_pos e])) (fun e => ?_)
  rw [if_neg e]
  refine Ok_ob1 ((findRef_ok hn hl).mono (fun q hq => ?_))
  rcases hq with ⟨rfl, e2⟩ | ⟨h0, h1, y, hy, _, e2⟩
  · rw [e2]; exact Ok_ite (fun _ => Ok.some' rfl) (fun h => absurd (show (-1 : Int) < 0 by decide) h)
  · rw [e2]
    refine Ok_ite (fun h => by omega) (fun _ => Ok_ix h0 h1 (fun z hz => Ok.some' ?_))
    obtain rfl := Option.some.inj (hy.symm.trans hz)
    rfl
theorem snap_r (hn : 100010 ≤ n) (h : Gm t s d g A root ord K bs H) (q : Int) : m128 n r g t s d q = some (snapN H.nodes q) := by
  refine Ok.eq ?_
  unfold m128 snapN
  have := node_ok hn h q
  rw [this]
  cases findN H.nodes q with
  | none => exact Ok_nm (Ok.some' rfl)
  | some x => exact Ok_nm (Ok.some' rfl)
theorem snap_m (hn : 100000 ≤ n) (hl : m.nodes.length < 100000) (q : Int) : m158 n m q = some (snapN m.nodes q) := by
  refine Ok.eq ?_
  unfold m158 snapN
  refine Ok_ob1 ((findNode_ok hn hl).mono (fun k hk => ?_))
  rcases hk with ⟨rfl, e2⟩ | ⟨h0, h1, y, hy, _, e2⟩
  · rw [e2]; exact Ok_ite (fun _ => Ok.some' rfl) (fun h => absurd (show (-1 : Int) < 0 by decide) h)
  · rw [e2]
    refine Ok_ite (fun h => by omega) (fun _ => Ok_ix h0 h1 (fun z hz => Ok.some' ?_))
    obtain rfl := Option.some.inj (hy.symm.trans hz)
    rfl
theorem here_m (hn : 100000 ≤ n) (hr : m.refs.length < 100000) (hl : m.nodes.length < 100000) : m133 n m = some (snapN m.nodes (atM m)) := by
  refine Ok.eq ?_
  unfold m133
  exact Ok_cl1 (at_m hn hr) (Ok_cl1 (snap_m hn hl _) (Ok.some' rfl))
theorem pay_m {w : Int} (hl : m.lax = true) : m125 n m w = some (true, { m with room := wi (m.room - w) }) := by
  refine Ok.eq ?_
  unfold m125
  rw [hl]
  exact Ok_nm (Ok.some' rfl)
/-- equality of sorted lists by what is found -/
theorem find_mem {l : List File} (hs : l.Pairwise fun a b => sLt a.path b.path = true) {f : File} (hf : f ∈ l) : findF l f.path = some f := by
  cases e : findF l f.path with
  | none => exact absurd rfl (findF_none.1 e f hf)
  | some g =>
    obtain ⟨h1, h2⟩ := findF_some e
    obtain ⟨i, hi⟩ := List.mem_iff_getElem?.1 hf
    obtain ⟨j, hj⟩ := List.mem_iff_getElem?.1 h1
    rcases Nat.lt_trichotomy i j with h | h | h
    · have := pairwise_get hs h hi hj; rw [h2, sLt_irrefl] at this; cases this
    · subst h; rw [hi] at hj; exact hj.symm
    · have := pairwise_get hs h hj hi; rw [h2, sLt_irrefl] at this; cases this
theorem files_ext {a b : List File} (ha : a.Pairwise fun a b => sLt a.path b.path = true) (hb : b.Pairwise fun a b => sLt a.path b.path = true) (h : ∀ p, findF a p = findF b p) : a = b := by
  refine sorted_str (f := fun (x : File) => x.path) ha hb (fun f => ⟨fun hf => ?_, fun hf => ?_⟩)
  · have := find_mem ha hf; rw [h] at this; exact (findF_some this).1
  · have := find_mem hb hf; rw [← h] at this; exact (findF_some this).1
theorem codeV_t {oa ob : Option File} {p : Str} (ha : ∀ f, oa = some f → f.path = p) (hb : ∀ f, ob = some f → f.path = p) : codeV true oa ob = 0 ↔ oa = ob := by
  cases oa with
  | none => cases ob with
    | none => simp [codeV]
    | some y => simp [codeV]
  | some x => cases ob with
    | none => simp [codeV]
    | some y =>
      have h1 := ha x rfl
      have h2 := hb y rfl
      show (if x.data ≠ y.data ∨ (true = true ∧ x.mode ≠ y.mode) then (2 : Int) else 0) = 0 ↔ _
      constructor
      · intro h
        split at h
        · cases h
        · rename_i hno
          rw [not_or, Classical.not_not] at hno
          have hm : x.mode = y.mode := Classical.byContradiction fun hm => hno.2 ⟨rfl, hm⟩
          cases x; cases y; simp at *; exact ⟨by rw [h1, h2], hno.1, hm⟩
      · intro h
        obtain rfl := Option.some.inj h
        rw [if_neg (by simp)]
theorem codeV_f {oa ob : Option File} : codeV false oa ob = 0 ↔ oa.map (·.data) = ob.map (·.data) := by
  cases oa with
  | none => cases ob with
    | none => simp [codeV]
    | some y => simp [codeV]
  | some x => cases ob with
    | none => simp [codeV]
    | some y =>
      show (if x.data ≠ y.data ∨ (false = true ∧ x.mode ≠ y.mode) then (2 : Int) else 0) = 0 ↔ _
      simp
theorem status_nil {h i w : List File} (hh : Law h) (hi : Law i) (hw : Law w) (mh : ∀ f, f ∈ h → f.mode = 0) (mw : ∀ f, f ∈ w → f.mode = 0) : statusN h i w = [] ↔ i = h ∧ w = i := by
  have fp : ∀ (l : List File) (p : Str) f, findF l p = some f → f.path = p := fun l p f h => (findF_some h).2
  have key : statusN h i w = [] ↔ ∀ p, codeV true (findF h p) (findF i p) = 0 ∧ codeV false (findF i p) (findF w p) = 0 := by
    unfold statusN
    rw [List.filter_eq_nil_iff]
    constructor
    · intro hall p
      by_cases hp : ∃ x, x ∈ upaths h i w ∧ x.path = p
      · obtain ⟨x, hx, rfl⟩ := hp
        have := hall _ (List.mem_map.2 ⟨x, hx, rfl⟩)
        unfold nzC stN at this
        rw [decide_eq_true_eq, not_or, Classical.not_not, Classical.not_not] at this
        exact this
      · rw [upaths_mem, not_or, not_or] at hp
        have e1 : findF h p = none := findF_none.2 (fun f hf e => hp.1 ⟨f, hf, e⟩)
        have e2 : findF i p = none := findF_none.2 (fun f hf e => hp.2.1 ⟨f, hf, e⟩)
        have e3 : findF w p = none := findF_none.2 (fun f hf e => hp.2.2 ⟨f, hf, e⟩)
        rw [e1, e2, e3]; exact ⟨rfl, rfl⟩
    · intro hall c hc
      obtain ⟨x, hx, rfl⟩ := List.mem_map.1 hc
      have := hall x.path
      unfold nzC stN
      rw [decide_eq_true_eq, not_or, Classical.not_not, Classical.not_not]
      exact this
  rw [key]
  constructor
  · intro hall
    have e1 : i = h := files_ext hi.srt hh.srt (fun p => ((codeV_t (fp h p) (fp i p)).1 (hall p).1).symm)
    refine ⟨e1, files_ext hw.srt hi.srt (fun p => ?_)⟩
    subst e1
    exact ((findF_dat mh mw).2 (codeV_f.1 (hall p).2)).symm
  · rintro ⟨rfl, rfl⟩ p
    exact ⟨(codeV_t (fp _ p) (fp _ p)).2 rfl, codeV_f.2 rfl⟩
theorem clean_r (hn : 100010 ≤ n) (hx : XF x m.index) (hw : Wk r m.work) (h : MI m) {hf : List File} (hl : Law hf) (hm : ∀ f, f ∈ hf → f.mode = 0) : m148 n r x hf = some (decide (m.index = hf ∧ m.work = m.index)) := by
  refine Ok.eq ?_
  unfold m148
  refine Ok_cl1 (workList_ok (by omega) hw h.wk.num) (Ok_cl2 (status_x hn hx hl h.wk) (Ok.some' ?_))
  refine decide_eq_decide.2 ?_
  rw [← status_nil hl h.ix h.wk hm h.wm]
  constructor
  · intro e; exact List.eq_nil_of_length_eq_zero (by omega)
  · intro e; rw [e]; rfl
theorem clean_m (hn : 100000 ≤ n) (h : MI m) : m156 n m = some (decide (m.index = snapN m.nodes (atM m) ∧ m.work = m.index)) := by
  have h1 := h.rl
  have h2 := h.wn.len
  have h3 := h.ix.num
  have h4 := h.wk.num
  refine Ok.eq ?_
  unfold m156
  refine Ok_cl1 (here_m hn (by omega) (by omega)) (Ok_cl1 (sameFiles_ok hn (by omega)) ?_)
  by_cases e : m.index = snapN m.nodes (atM m)
  · rw [decide_eq_true e]
    refine Ok_cond (fun e => nomatch e) (fun _ => Ok_cl1 (sameFiles_ok hn (by omega)) (Ok.some' ?_))
    exact decide_eq_decide.2 ⟨fun h => ⟨e, h⟩, fun h => h.2⟩
  · rw [decide_eq_false e]
    exact Ok_cond (fun _ => Ok.some' (decide_eq_false (fun h => e h.1)).symm) (fun e => nomatch e)
theorem take_ok {l : List File} (hn : 100000 ≤ n) (hl : Law l) : Ok (m155 n r x l) (fun q => Wk q.1 (plainF l) ∧ XF q.2 l) := by
  unfold m155
  exact Ok_ob2 ((load_x hn hl).mono (fun q hq => Ok_ob1 ((setWork_ok hn hl.num).mono (fun r' hr' => Ok.some' ⟨hr', hq.2⟩))))
theorem plainF_id {l : List File} (h : ∀ f, f ∈ l → f.mode = 0) : plainF l = l := by
  unfold plainF
  refine (List.map_congr_left (fun f hf => ?_)).trans (List.map_id l)
  have := h f hf
  cases f; simp at this; simp [this]
theorem plainF_law {l : List File} (h : Law l) : Law (plainF l) ∧ ∀ f, f ∈ plainF l → f.mode = 0 := by
  unfold plainF
  refine ⟨⟨by rw [List.length_map]; exact h.num, fun f hf => ?_, fun f hf => ?_, fun f hf => ?_, ?_, ?_⟩, fun f hf => ?_⟩
  · obtain ⟨g, hg, rfl⟩ := List.mem_map.1 hf; exact h.good g hg
  · obtain ⟨g, hg, rfl⟩ := List.mem_map.1 hf; exact ⟨by show (0 : Int) ≤ 0; decide, by show (0 : Int) ≤ 3; decide⟩
  · obtain ⟨g, hg, rfl⟩ := List.mem_map.1 hf; exact h.size g hg
  · rw [List.pairwise_map]; exact h.srt
  · rw [List.pairwise_map]; exact h.ncl
  · obtain ⟨g, hg, rfl⟩ := List.mem_map.1 hf; rfl
end
end Go.Proofs.Qxb6500350aGreat
