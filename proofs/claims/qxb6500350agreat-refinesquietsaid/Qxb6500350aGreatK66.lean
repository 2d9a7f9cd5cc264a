/- PLAIN LAW: MERGE OF SNAPSHOTS (1): THE MODEL'S; TREEDIFF. -/
import Derived.Test.Qxb6500350aGreatK65
import Derived.Test.Qxb6500350aGreatT159
import Derived.Test.Qxb6500350aGreatT224
set_option linter.unusedVariables false
set_option linter.unusedSimpArgs false
set_option maxHeartbeats 2000000
namespace Go.Proofs.Qxb6500350aGreat
open Go.Eng Go
/-- the data at a path -/
def datF (l : List File) (p : Str) : Option Str := (findF l p).map (·.data)
/-- one path of a merge -/
def mrgP (n : Nat) (p : Str) (db d0 dt : Option Str) : Option File × Int :=
  if d0 = dt ∨ dt = db then (d0.map fun d => { path := p, data := d, mode := 0 }, 0) else
  if d0 = db then (dt.map fun d => { path := p, data := d, mode := 0 }, 0) else
  if (merge3 n (db.getD []) (d0.getD []) (dt.getD [])).2 = 0 then (some { path := p, data := (merge3 n (db.getD []) (d0.getD []) (dt.getD [])).1, mode := 0 }, 0) else
  (some { path := p, data := (merge3 n (db.getD []) (d0.getD []) (dt.getD [])).1, mode := 1 }, 1)
/-- the merge of three snapshots over the paths ps -/
def mrgL (n : Nat) (b o t : List File) (ps : List Str) : List File × Int :=
  (ps.flatMap fun p => (mrgP n p (datF b p) (datF o p) (datF t p)).1.toList, (ps.map fun p => (mrgP n p (datF b p) (datF o p) (datF t p)).2).sum)
def mrgN (n : Nat) (b o t : List File) : List File × Int := mrgL n b o t ((upaths b o t).map (·.path))
theorem mrgL_snoc {n : Nat} {b o t : List File} {ps : List Str} {p : Str} : mrgL n b o t (ps ++ [p]) = ((mrgL n b o t ps).1 ++ (mrgP n p (datF b p) (datF o p) (datF t p)).1.toList, (mrgL n b o t ps).2 + (mrgP n p (datF b p) (datF o p) (datF t p)).2) := by
  unfold mrgL; simp
theorem mrgP_c {n : Nat} {p : Str} {a b c : Option Str} : 0 ≤ (mrgP n p a b c).2 ∧ (mrgP n p a b c).2 ≤ 1 := by
  unfold mrgP
  split
  · exact ⟨Int.le_refl 0, by show (0 : Int) ≤ 1; decide⟩
  split
  · exact ⟨Int.le_refl 0, by show (0 : Int) ≤ 1; decide⟩
  split
  · exact ⟨Int.le_refl 0, by show (0 : Int) ≤ 1; decide⟩
  · exact ⟨by show (0 : Int) ≤ 1; decide, Int.le_refl 1⟩
theorem mrgL_b {n : Nat} {b o t : List File} : ∀ (ps : List Str), (mrgL n b o t ps).1.length ≤ ps.length ∧ 0 ≤ (mrgL n b o t ps).2 ∧ (mrgL n b o t ps).2 ≤ ps.length
  | [] => by simp [mrgL]
  | p :: ps => by
    have ih := mrgL_b (n := n) (b := b) (o := o) (t := t) ps
    have h1 := mrgP_c (n := n) (p := p) (a := datF b p) (b := datF o p) (c := datF t p)
    have h2 : ((mrgP n p (datF b p) (datF o p) (datF t p)).1.toList).length ≤ 1 := by cases (mrgP n p (datF b p) (datF o p) (datF t p)).1 <;> simp
    have e1 : (mrgL n b o t (p :: ps)).1 = (mrgP n p (datF b p) (datF o p) (datF t p)).1.toList ++ (mrgL n b o t ps).1 := by unfold mrgL; simp
    have e2 : (mrgL n b o t (p :: ps)).2 = (mrgP n p (datF b p) (datF o p) (datF t p)).2 + (mrgL n b o t ps).2 := by unfold mrgL; simp
    rw [e1, e2, List.length_append, List.length_cons]
    omega
section
variable {n : Nat}
theorem sameAt_ok {a b : List File} {i j : Int} {oi oj : Option File} (h1 : Idx a i oi) (h2 : Idx b j oj) : m231 n a i b j = some (decide (oi.map (·.data) = oj.map (·.data))) := by
  refine Ok.eq ?_
  unfold m231
  rcases h1 with ⟨rfl, rfl⟩ | ⟨a1, a2, f, a3, rfl⟩
  · refine Ok_iteO (fun _ => Ok.some' ?_) (fun h _ => absurd (show (-1 : Int) < 0 by decide) h)
    rcases h2 with ⟨rfl, rfl⟩ | ⟨b1, b2, g, b3, rfl⟩
    · rfl
    · rw [decide_eq_false (show ¬ j < 0 by omega), Bool.and_false]; simp
  · rcases h2 with ⟨rfl, rfl⟩ | ⟨b1, b2, g, b3, rfl⟩
    · refine Ok_iteO (fun _ => Ok.some' ?_) (fun _ h => absurd (show (-1 : Int) < 0 by decide) h)
      rw [decide_eq_false (show ¬ i < 0 by omega), Bool.false_and]; simp
    · refine Ok_iteO (fun h => by omega) (fun _ _ => Ok_ix a1 a2 (fun x1 hx1 => Ok_ix b1 b2 (fun x2 hx2 => Ok.some' ?_)))
      obtain rfl : f = x1 := Option.some.inj (a3.symm.trans hx1)
      obtain rfl : g = x2 := Option.some.inj (b3.symm.trans hx2)
      simp
theorem text_ok {a : List File} {i : Int} {oi : Option File} (h : Idx a i oi) : m232 n a i = some ((oi.map (·.data)).getD []) := by
  refine Ok.eq ?_
  unfold m232
  rcases h with ⟨rfl, rfl⟩ | ⟨a1, a2, f, a3, rfl⟩
  · exact Ok_ite (fun _ => Ok.some' rfl) (fun h => absurd (show (-1 : Int) < 0 by decide) h)
  · refine Ok_ite (fun h => by omega) (fun _ => Ok_ix a1 a2 (fun x1 hx1 => Ok.some' ?_))
    obtain rfl : f = x1 := Option.some.inj (a3.symm.trans hx1)
    rfl
theorem datF_len {l : List File} (h : ∀ f, f ∈ l → f.data.length ≤ 1024) (p : Str) : ((datF l p).getD []).length ≤ 1024 := by
  unfold datF
  cases e : findF l p with
  | none => simp
  | some f => exact h f (findF_some e).1
theorem mergeFiles_ok {a b c : List File} (hn : 100000 ≤ n) (ha : a.length ≤ 1000) (hb : b.length ≤ 1000) (hc : c.length ≤ 1000) (da : ∀ f, f ∈ a → f.data.length ≤ 1024) (db : ∀ f, f ∈ b → f.data.length ≤ 1024) (dc : ∀ f, f ∈ c → f.data.length ≤ 1024) : m159 n a b c = some (mrgN n a b c) := by
  have l1 := addP_len a []
  have l2 := addP_len b (addP [] a)
  have l3 := addP_len c (addP (addP [] a) b)
  simp only [List.length_nil] at l1
  refine Ok.eq ?_
  unfold m159
  refine Ok_ob2 ?_
  unfold m159_w1
  refine Ok_pre2 a (by omega) hn (fun pre z => z = addP [] pre) rfl (fun Q lp z pre x r hQ e hI hlt hget hw ih => ?_) (fun Q lp z hQ hI => ?_)
  · subst hI
    have hpl := pre_len e
    have hz := addP_len pre []
    simp only [List.length_nil] at hz
    refine Ok_ite (fun _ => Ok_ix (by omega) hlt (fun y hy => ?_)) (fun h => absurd hlt h)
    obtain rfl := hget y hy
    refine Ok_cl1 (with_ok hn (by omega)) ?_
    rw [hw]; exact ih _ (addP_snoc [] pre x).symm
  subst hI
  refine Ok_ite (fun h => absurd h (by omega)) (fun _ => Ok.some' (hQ _ (Ok_ob2 ?_)))
  clear hQ
  unfold m159_w2
  refine Ok_pre2 b (by omega) hn (fun pre z => z = addP (addP [] a) pre) rfl (fun Q lp z pre x r hQ e hI hlt hget hw ih => ?_) (fun Q lp z hQ hI => ?_)
  · subst hI
    have hpl := pre_len e
    have hz := addP_len pre (addP [] a)
    refine Ok_ite (fun _ => Ok_ix (by omega) hlt (fun y hy => ?_)) (fun h => absurd hlt h)
    obtain rfl := hget y hy
    refine Ok_cl1 (with_ok hn (by omega)) ?_
    rw [hw]; exact ih _ (addP_snoc _ pre x).symm
  subst hI
  refine Ok_ite (fun h => absurd h (by omega)) (fun _ => Ok.some' (hQ _ (Ok_ob2 ?_)))
  clear hQ
  unfold m159_w3
  refine Ok_pre2 c (by omega) hn (fun pre z => z = addP (addP (addP [] a) b) pre) rfl (fun Q lp z pre x r hQ e hI hlt hget hw ih => ?_) (fun Q lp z hQ hI => ?_)
  · subst hI
    have hpl := pre_len e
    have hz := addP_len pre (addP (addP [] a) b)
    refine Ok_ite (fun _ => Ok_ix (by omega) hlt (fun y hy => ?_)) (fun h => absurd hlt h)
    obtain rfl := hget y hy
    refine Ok_cl1 (with_ok hn (by omega)) ?_
    rw [hw]; exact ih _ (addP_snoc _ pre x).symm
  subst hI
  refine Ok_ite (fun h => absurd h (by omega)) (fun _ => Ok.some' (hQ _ (Ok_ob3 ?_)))
  clear hQ
  show Ok (m159_w4 n a b c (upaths a b c) n [] 0 0) _
  have hul : (upaths a b c).length ≤ 3000 := by unfold upaths; omega
  unfold m159_w4
  refine Ok_pre3 (upaths a b c) (by omega) hn (fun pre z k => z = (mrgL n a b c (pre.map (·.path))).1 ∧ k = (mrgL n a b c (pre.map (·.path))).2) ⟨rfl, rfl⟩ (fun Q lp z k pre x r hQ e hI hlt hget hw ih => ?_) (fun Q lp z k hQ hI => ?_)
  · obtain ⟨rfl, rfl⟩ := hI
    have hpl := pre_len e
    have hz := mrgL_b (n := n) (b := a) (o := b) (t := c) (pre.map (·.path))
    rw [List.length_map] at hz
    refine Ok_ite (fun _ => Ok_ix (by omega) hlt (fun y hy => ?_)) (fun h => absurd hlt h)
    obtain rfl := hget y hy
    rw [hw]
    have next : ∀ z' k', z' = (mrgL n a b c (pre.map (·.path))).1 ++ (mrgP n x.path (datF a x.path) (datF b x.path) (datF c x.path)).1.toList → k' = (mrgL n a b c (pre.map (·.path))).2 + (mrgP n x.path (datF a x.path) (datF b x.path) (datF c x.path)).2 → Ok (lp z' k' ((pre.length : Int) + 1)) Q := by
      intro z' k' h1 h2
      refine ih _ _ ?_
      rw [List.map_append, List.map_singleton, mrgL_snoc]
      exact ⟨h1, h2⟩
    refine Ok_ob1 ((findX_ok hn (by omega)).mono (fun i hi => Ok_ob1 ((findX_ok hn (by omega)).mono (fun j hj => Ok_ob1 ((findX_ok hn (by omega)).mono (fun m hm => ?_))))))
    have e1 : m231 n b j c m = some (decide (datF b x.path = datF c x.path)) := sameAt_ok hj hm
    have e2 : m231 n c m a i = some (decide (datF c x.path = datF a x.path)) := sameAt_ok hm hi
    have e3 : m231 n b j a i = some (decide (datF b x.path = datF a x.path)) := sameAt_ok hj hi
    have t1 : m232 n a i = some ((datF a x.path).getD []) := text_ok hi
    have t2 : m232 n b j = some ((datF b x.path).getD []) := text_ok hj
    have t3 : m232 n c m = some ((datF c x.path).getD []) := text_ok hm
    have q1 := datF_len da x.path
    have q2 := datF_len db x.path
    have q3 := datF_len dc x.path
    -- the file at an index, or none
    have put : ∀ {l : List File} {i : Int} {o : Option File} {k : Int}, Idx l i o → (mrgP n x.path (datF a x.path) (datF b x.path) (datF c x.path)) = (o.map fun f => ({ path := x.path, data := f.data, mode := 0 } : File), 0) → Ok (cond (decide ((0 : Int) ≤ i)) (
        Option.bind (ixL l i) fun x5 => Option.bind (apd (mrgL n a b c (pre.map (·.path))).1 ({ File.zero with path := x.path, data := x5.data })) fun l12 => lp l12 (mrgL n a b c (pre.map (·.path))).2 ((pre.length : Int) + 1)) (lp (mrgL n a b c (pre.map (·.path))).1 (mrgL n a b c (pre.map (·.path))).2 ((pre.length : Int) + 1))) Q := by
      intro l i o k ho hm
      rcases ho with ⟨rfl, rfl⟩ | ⟨b1, b2, g, b3, rfl⟩
      · exact Ok_ite (fun h => absurd h (by decide)) (fun _ => next _ _ (by rw [hm]; simp) (by rw [hm]; simp))
      · refine Ok_ite (fun _ => Ok_ix b1 b2 (fun x5 hx5 => ?_)) (fun h => absurd b1 h)
        obtain rfl : g = x5 := Option.some.inj (b3.symm.trans hx5)
        exact Ok_apd (by omega) (next _ _ (by rw [hm]; rfl) (by rw [hm]; simp))
    have hmd : mrgP n x.path (datF a x.path) (datF b x.path) (datF c x.path) = mrgP n x.path (datF a x.path) (datF b x.path) (datF c x.path) := rfl
    have v15 : Ok (cond (!(decide (datF b x.path = datF c x.path))) (ob1 (m231 n c m a i) fun c16 => some c16) (some (decide (datF b x.path = datF c x.path)))) (fun v => v = decide (datF b x.path = datF c x.path ∨ datF c x.path = datF a x.path)) := by
      by_cases h : datF b x.path = datF c x.path
      · rw [decide_eq_true h]
        exact Ok.some' (decide_eq_true (.inl h)).symm
      · rw [decide_eq_false h]
        refine Ok_cl1 e2 (Ok.some' ?_)
        exact decide_eq_decide.2 ⟨.inr, fun h2 => h2.resolve_left h⟩
    refine Ok_cl1 e1 (Ok_ob1 (v15.mono (fun v hv => ?_)))
    subst hv
    refine Ok_ite (fun h => ?_) (fun h => ?_)
    · refine put (k := 0) hj ?_
      unfold mrgP
      rw [if_pos h]
      unfold datF
      rw [Option.map_map]; rfl
    refine Ok_cl1 e3 (Ok_ite (fun h2 => ?_) (fun h2 => ?_))
    · refine put (k := 0) hm ?_
      unfold mrgP
      rw [if_neg h, if_pos h2]
      unfold datF
      rw [Option.map_map]; rfl
    have hm3 : m233 n ((datF a x.path).getD []) ((datF b x.path).getD []) ((datF c x.path).getD []) = some ((merge3 n ((datF a x.path).getD []) ((datF b x.path).getD []) ((datF c x.path).getD [])).1, (merge3 n ((datF a x.path).getD []) ((datF b x.path).getD []) ((datF c x.path).getD [])).2) := Merge3_ok hn q1 q2 q3
    refine Ok_cl1 t1 (Ok_cl1 t2 (Ok_cl1 t3 (Ok_cl2 hm3 ?_)))
    refine Ok_ite (fun h3 => Ok_apd (by omega) (next _ _ ?_ ?_)) (fun h3 => Ok_apd (by omega) ?_)
    · unfold mrgP; rw [if_neg h, if_neg h2, if_pos h3]; rfl
    · unfold mrgP; rw [if_neg h, if_neg h2, if_pos h3]; simp
    · rw [wi_e (by omega) (by omega)]
      refine next _ _ ?_ ?_
      · unfold mrgP; rw [if_neg h, if_neg h2, if_neg h3]; rfl
      · unfold mrgP; rw [if_neg h, if_neg h2, if_neg h3]
  · refine Ok_ite (fun h => absurd h (by omega)) (fun _ => Ok.some' (hQ _ (Ok.some' ?_)))
    exact Prod.ext hI.1 hI.2
/-- where two snapshots differ -/
def chgB (a b : List File) (p : Str) : Bool := decide (findF a p ≠ findF b p)
/-- the list of changes stands for the paths that differ -/
structure ChgOf (a b : List File) (ch : List Chg) : Prop where
  srt : (ch.map (·.path)).Pairwise fun a b => sLt a b = true
  mem : ∀ p, p ∈ ch.map (·.path) ↔ findF a p ≠ findF b p
theorem treeDiff_ok {a b : List File} (hn : 100000 ≤ n) (ha : Law a) (hb : Law b) : ∃ ch, m224 n a b = some (ch, 0) ∧ ChgOf a b ch := by
  suffices Ok (m224 n a b) (fun r => r.2 = 0 ∧ ChgOf a b r.1) by
    obtain ⟨⟨ch, z⟩, h1, rfl, h2⟩ := this
    exact ⟨ch, h1, h2⟩
  have la := ha.num
  have lb := hb.num
  unfold m224
  rw [← chkF_iff] at ha hb
  refine Ok_cl1 (checkFiles_ok hn) (Ok_ite (fun h => absurd ha h) (fun _ => Ok_cl1 (checkFiles_ok hn) (Ok_ite (fun h => absurd hb h) (fun _ => ?_))))
  rw [chkF_iff] at ha hb
  have sa := ha.srt
  have sb := hb.srt
  rw [wi_e (by omega) (by omega)]
  refine Ok_mk (by omega) (by omega) (by omega) (Ok_ob3 ?_)
  have hU := upaths_srt a b []
  have hUm : ∀ p, p ∈ (upaths a b []).map (·.path) ↔ (∃ x, x ∈ a ∧ x.path = p) ∨ ∃ x, x ∈ b ∧ x.path = p := by
    intro p
    rw [List.mem_map, upaths_mem]
    simp
  have hUl : ((upaths a b []).map (·.path)).length ≤ 16 := by
    rw [List.length_map]
    have l1 := addP_len a []
    have l2 := addP_len b (addP [] a)
    simp only [List.length_nil] at l1
    show (addP (addP (addP [] a) b) []).length ≤ 16
    show (addP (addP [] a) b).length ≤ 16
    omega
  generalize hUe : (upaths a b []).map (·.path) = U at hU hUm hUl
  -- what the walk keeps
  let K := fun (l : List Chg) (c3 c4 : Int) (done rest : List Str) (a1 a2 b1 b2 : List File) => U = done ++ rest ∧ CutL a done rest a1 a2 ∧ CutL b done rest b1 b2 ∧ l.map (·.path) = done.filter (chgB a b) ∧ c3 = a1.length ∧ c4 = b1.length
  have lbnd : ∀ {l c3 c4 done rest a1 a2 b1 b2}, K l c3 c4 done rest a1 a2 b1 b2 → l.length ≤ 16 := by
    rintro l c3 c4 done rest a1 a2 b1 b2 ⟨h1, _, _, h4, _, _⟩
    have := congrArg List.length h4
    rw [List.length_map] at this
    have h5 := List.length_filter_le (chgB a b) done
    rw [h1, List.length_append] at hUl
    omega
  have filt : ∀ {done : List Str} {p : Str} {l : List Chg}, l.map (·.path) = done.filter (chgB a b) → (∀ (s : Int), findF a p ≠ findF b p → (l ++ [({ Chg.zero with path := p, staged := s } : Chg)]).map (·.path) = (done ++ [p]).filter (chgB a b)) ∧ (findF a p = findF b p → l.map (·.path) = (done ++ [p]).filter (chgB a b)) := by
    intro done p l h
    refine ⟨fun s hne => ?_, fun he => ?_⟩
    · rw [List.map_append, List.filter_append, h, List.filter_cons, if_pos (show chgB a b p = true from decide_eq_true hne)]; rfl
    · rw [List.filter_append, h, List.filter_cons, if_neg (by unfold chgB; rw [decide_eq_true_eq]; exact fun h => h he)]; simp
  -- the next path
  have split : ∀ {l c3 c4 done rest a1 a2 b1 b2}, K l c3 c4 done rest a1 a2 b1 b2 → (a2 ≠ [] ∨ b2 ≠ []) → ∃ p r, rest = p :: r ∧ (done ++ p :: r).Pairwise (fun a b => sLt a b = true) ∧ ((∃ f t, a2 = f :: t ∧ f.path = p) ∨ ∃ f t, b2 = f :: t ∧ f.path = p) := by
    rintro l c3 c4 done rest a1 a2 b1 b2 ⟨h1, h2, h3, _, _, _⟩ hne
    cases rest with
    | nil =>
      exfalso
      rcases hne with h | h
      · cases a2 with
        | nil => exact h rfl
        | cons f t => have := h2.hi f (by simp); cases this
      · cases b2 with
        | nil => exact h rfl
        | cons f t => have := h3.hi f (by simp); cases this
    | cons p r =>
      have hr : (done ++ p :: r).Pairwise (fun a b => sLt a b = true) := by rw [← h1]; exact hU
      refine ⟨p, r, rfl, hr, ?_⟩
      rcases (hUm p).1 (by rw [h1]; simp) with ⟨x, hx, e⟩ | ⟨x, hx, e⟩
      · obtain ⟨t, ht⟩ := cut_has h2 sa hr hx e
        exact .inl ⟨x, t, ht, e⟩
      · obtain ⟨t, ht⟩ := cut_has h3 sb hr hx e
        exact .inr ⟨x, t, ht, e⟩
  unfold m224_w1
  refine Ok_it3 (fun (l : List Chg) (c3 c4 : Int) => ∃ done rest a1 a2 b1 b2, K l c3 c4 done rest a1 a2 b1 b2) (fun _ (c3 c4 : Int) => ((a.length : Int) - c3 + (b.length - c4)).toNat) ?_ n _ 0 0
    ⟨[], U, [], a, [], b, rfl, .zero (fun f hf => (hUm _).2 (.inl ⟨f, hf, rfl⟩)), .zero (fun f hf => (hUm _).2 (.inr ⟨f, hf, rfl⟩)), rfl, rfl, rfl⟩ (by show ((a.length : Int) - 0 + (b.length - 0)).toNat < n; omega)
  rintro Q lp l c3 c4 hQ ⟨done, rest, a1, a2, b1, b2, hK⟩ ih
  have hll := lbnd hK
  have hK0 := hK
  obtain ⟨k1, k2, k3, k4, rfl, rfl⟩ := hK
  obtain ⟨ga, ga2⟩ := suf_ix k2.eq
  obtain ⟨gb, gb2⟩ := suf_ix k3.eq
  have lea : a.length = a1.length + a2.length := by rw [k2.eq, List.length_append]
  have leb : b.length = b1.length + b2.length := by rw [k3.eq, List.length_append]
  refine Ok_ite2 (fun hc1 hc2 => ?_) (fun hend => Ok.some' (hQ _ ?_))
  · obtain ⟨p, r, rfl, hr, hp⟩ := split hK0 (.inl (ga.1 hc1))
    cases a2 with
    | nil => exact absurd rfl (ga.1 hc1)
    | cons x ta =>
    cases b2 with
    | nil => exact absurd rfl (gb.1 hc2)
    | cons y tb =>
    have hxp := cut_head k2 hr rfl
    have hyp := cut_head k3 hr rfl
    rw [wi_e (x := (a1.length : Int) + 1) (by omega) (by omega), wi_e (x := (b1.length : Int) + 1) (by omega) (by omega)]
    have rx : ∀ {τ : Type} {P : τ → Prop} {F : File → Option τ}, Ok (F x) P → Ok (Option.bind (ixL a a1.length) F) P := fun k => Ok_ix (by omega) hc1 (fun z hz => by rw [← ga2 x ta rfl z hz]; exact k)
    have ry : ∀ {τ : Type} {P : τ → Prop} {F : File → Option τ}, Ok (F y) P → Ok (Option.bind (ixL b b1.length) F) P := fun k => Ok_ix (by omega) hc2 (fun z hz => by rw [← gb2 y tb rfl z hz]; exact k)
    simp only [List.length_cons] at lea leb
    refine rx (ry (Ok_cond (fun hlt => rx (Ok_apd (by omega) ?_)) (fun hlt => ry (rx (Ok_cond (fun hlt2 => ry (Ok_apd (by omega) ?_)) (fun hlt2 => Ok_ob1 ?_))))))
    · have hx : x.path = p := by
        rcases hxp with h | h
        · exact h
        · rcases hyp with h2 | h2
          · rw [h2] at hlt; rw [sLt_asymm hlt] at h; cases h
          · rcases hp with ⟨f, t, e, h3⟩ | ⟨f, t, e, h3⟩
            · rw [← (List.cons.inj e).1] at h3; exact h3
            · rw [← (List.cons.inj e).1] at h3; rw [h3, sLt_irrefl] at h2; cases h2
      have hy : ∀ f t, y :: tb = f :: t → f.path ≠ p := by
        intro f t e h3
        rw [← (List.cons.inj e).1] at h3
        rw [hx, h3, sLt_irrefl] at hlt; cases hlt
      obtain ⟨q1, q2⟩ := cut_hit k2 sa hr hx
      obtain ⟨q3, q4⟩ := cut_miss k3 sb hr hy
      refine ih _ _ _ ⟨done ++ [p], r, _, _, _, _, by rw [k1]; simp, q2, q4, ?_, by simp, rfl⟩ (by omega)
      rw [hx]
      exact (filt k4).1 3 (by rw [q1, q3]; simp)
    · have hy : y.path = p := by
        rcases hyp with h | h
        · exact h
        · rcases hxp with h2 | h2
          · rw [h2] at hlt2; rw [sLt_asymm hlt2] at h; cases h
          · rcases hp with ⟨f, t, e, h3⟩ | ⟨f, t, e, h3⟩
            · rw [← (List.cons.inj e).1] at h3; rw [h3, sLt_irrefl] at h2; cases h2
            · rw [← (List.cons.inj e).1] at h3; exact h3
      have hx : ∀ f t, x :: ta = f :: t → f.path ≠ p := by
        intro f t e h3
        rw [← (List.cons.inj e).1] at h3
        rw [hy, h3, sLt_irrefl] at hlt2; cases hlt2
      obtain ⟨q1, q2⟩ := cut_miss k2 sa hr hx
      obtain ⟨q3, q4⟩ := cut_hit k3 sb hr hy
      refine ih _ _ _ ⟨done ++ [p], r, _, _, _, _, by rw [k1]; simp, q2, q4, ?_, rfl, by simp⟩ (by omega)
      rw [hy]
      exact (filt k4).1 1 (by rw [q1, q3]; simp)
    · have hxy : x.path = y.path := by
        rcases sLt_tri x.path y.path with h | h | h
        · rw [hlt] at h; cases h
        · exact h
        · rw [hlt2] at h; cases h
      have hx : x.path = p := by
        rcases hp with ⟨f, t, e, h3⟩ | ⟨f, t, e, h3⟩
        · rw [← (List.cons.inj e).1] at h3; exact h3
        · rw [← (List.cons.inj e).1] at h3; rw [hxy]; exact h3
      have hy : y.path = p := by rw [← hxy]; exact hx
      obtain ⟨q1, q2⟩ := cut_hit k2 sa hr hx
      obtain ⟨q3, q4⟩ := cut_hit k3 sb hr hy
      have val : Ok (Option.bind (ixL a a1.length) fun x7 => Option.bind (ixL b b1.length) fun x8 => cond (!(decide (x7.data = x8.data))) (some (true)) (Option.bind (ixL a a1.length) fun x9 => Option.bind (ixL b b1.length) fun x10 => some ((decide (¬ (x9.mode = x10.mode)))))) (fun v => v = decide (x ≠ y)) := by
        refine rx (ry (Ok_iteN (fun e => Ok.some' ?_) (fun e => rx (ry (Ok.some' ?_)))))
        · exact (decide_eq_true (p := x ≠ y) (fun h => of_decide_eq_false e (by rw [h]))).symm
        · have e := of_decide_eq_true e
          refine decide_eq_decide.2 ⟨fun h h2 => h (by rw [h2]), fun h h2 => h ?_⟩
          cases x; cases y; simp at hxy e h2; simp [hxy, e, h2]
      refine val.mono (fun v hv => ?_)
      subst hv
      refine Ok_ite (fun hne => rx (Ok_apd (by omega) ?_)) (fun he => ?_)
      · refine ih _ _ _ ⟨done ++ [p], r, _, _, _, _, by rw [k1]; simp, q2, q4, ?_, by simp, by simp⟩ (by omega)
        rw [hx]
        exact (filt k4).1 2 (by rw [q1, q3]; exact fun h => hne (Option.some.inj h))
      · refine ih _ _ _ ⟨done ++ [p], r, _, _, _, _, by rw [k1]; simp, q2, q4, ?_, by simp, by simp⟩ (by omega)
        exact (filt k4).2 (by rw [q1, q3, Classical.not_not.1 he])
  · dsimp only
    have hab : a2 = [] ∨ b2 = [] := by
      by_cases h : (a1.length : Int) < a.length
      · right
        exact Classical.byContradiction fun h2 => hend h (gb.2 h2)
      · left
        exact Classical.byContradiction fun h2 => h (ga.2 h2)
    clear ih
    refine Ok_ob2 ?_
    unfold m224_w2
    refine Ok_it2 (fun (l : List Chg) (c3 : Int) => ∃ done rest a1 a2, K l c3 b1.length done rest a1 a2 b1 b2 ∧ (a2 = [] ∨ b2 = [])) (fun _ (c3 : Int) => ((a.length : Int) - c3).toNat) ?_ n l a1.length
      ⟨done, rest, a1, a2, hK0, hab⟩ (by show ((a.length : Int) - a1.length).toNat < n; omega)
    clear k1 k2 k3 k4 hK0 hll hab ga ga2 gb gb2 lea leb hend
    clear done rest
    rintro Q2 lp2 l c3 hQ2 ⟨done, rest, a1, a2, hK0, hab⟩ ih2
    have hll := lbnd hK0
    obtain ⟨k1, k2, k3, k4, rfl, _⟩ := id hK0
    obtain ⟨ga, ga2⟩ := suf_ix k2.eq
    have lea : a.length = a1.length + a2.length := by rw [k2.eq, List.length_append]
    refine Ok_ite (fun hlt => Ok_ix (by omega) hlt (fun z hz => Ok_apd (by omega) ?_)) (fun hge => Ok.some' (hQ2 _ ?_))
    · obtain ⟨p, r, rfl, hr, hp⟩ := split hK0 (.inl (ga.1 hlt))
      cases a2 with
      | nil => exact absurd rfl (ga.1 hlt)
      | cons x ta =>
      obtain rfl := ga2 x ta rfl z hz
      have hb2 : b2 = [] := hab.resolve_left (by simp)
      subst hb2
      have hx : x.path = p := by
        rcases hp with ⟨f, t, e, h3⟩ | ⟨f, t, e, h3⟩
        · rw [← (List.cons.inj e).1] at h3; exact h3
        · cases e
      obtain ⟨q1, q2⟩ := cut_hit k2 sa hr hx
      obtain ⟨q3, q4⟩ := cut_miss k3 sb hr (fun f t e => nomatch e)
      simp only [List.length_cons] at lea
      rw [wi_e (x := (a1.length : Int) + 1) (by omega) (by omega)]
      refine ih2 _ _ ⟨done ++ [p], r, _, _, ⟨by rw [k1]; simp, q2, q4, ?_, by simp, rfl⟩, .inr rfl⟩ (by omega)
      rw [hx]
      exact (filt k4).1 3 (by rw [q1, q3]; simp)
    · dsimp only
      have ha2 : a2 = [] := Classical.byContradiction fun h2 => hge (ga.2 h2)
      subst ha2
      clear ih2
      refine Ok_ob2 ?_
      unfold m224_w3
      refine Ok_it2 (fun (l : List Chg) (c4 : Int) => ∃ done rest b1 b2, K l a1.length c4 done rest a1 [] b1 b2) (fun _ (c4 : Int) => ((b.length : Int) - c4).toNat) ?_ n l b1.length
        ⟨done, rest, b1, b2, hK0⟩ (by show ((b.length : Int) - b1.length).toNat < n; omega)
      clear k1 k2 k3 k4 hK0 hll hab ga ga2 lea
      clear done rest
      rintro Q3 lp3 l c4 hQ3 ⟨done, rest, b1, b2, hK0⟩ ih3
      have hll := lbnd hK0
      obtain ⟨k1, k2, k3, k4, _, rfl⟩ := id hK0
      obtain ⟨gb, gb2⟩ := suf_ix k3.eq
      have leb : b.length = b1.length + b2.length := by rw [k3.eq, List.length_append]
      refine Ok_ite (fun hlt => Ok_ix (by omega) hlt (fun z hz => Ok_apd (by omega) ?_)) (fun hge => Ok.some' (hQ3 _ (Ok.some' ⟨rfl, ?_⟩)))
      · obtain ⟨p, r, rfl, hr, hp⟩ := split hK0 (.inr (gb.1 hlt))
        cases b2 with
        | nil => exact absurd rfl (gb.1 hlt)
        | cons y tb =>
        obtain rfl := gb2 y tb rfl z hz
        have hy : y.path = p := by
          rcases hp with ⟨f, t, e, h3⟩ | ⟨f, t, e, h3⟩
          · cases e
          · rw [← (List.cons.inj e).1] at h3; exact h3
        obtain ⟨q1, q2⟩ := cut_miss k2 sa hr (fun f t e => nomatch e)
        obtain ⟨q3, q4⟩ := cut_hit k3 sb hr hy
        simp only [List.length_cons] at leb
        rw [wi_e (x := (b1.length : Int) + 1) (by omega) (by omega)]
        refine ih3 _ _ ⟨done ++ [p], r, _, _, by rw [k1]; simp, q2, q4, ?_, rfl, by simp⟩ (by omega)
        rw [hy]
        exact (filt k4).1 1 (by rw [q1, q3]; simp)
      · have hb2 : b2 = [] := Classical.byContradiction fun h2 => hge (gb.2 h2)
        subst hb2
        have hrest : rest = [] := by
          cases rest with
          | nil => rfl
          | cons p r =>
            exfalso
            have hr : (done ++ p :: r).Pairwise (fun a b => sLt a b = true) := by rw [← k1]; exact hU
            rcases (hUm p).1 (by rw [k1]; simp) with ⟨x, hx, e⟩ | ⟨x, hx, e⟩
            · obtain ⟨t, ht⟩ := cut_has k2 sa hr hx e; cases ht
            · obtain ⟨t, ht⟩ := cut_has k3 sb hr hx e; cases ht
        subst hrest
        rw [List.append_nil] at k1
        subst k1
        dsimp only
        constructor
        · rw [k4]; exact hU.sublist List.filter_sublist
        · intro p
          rw [k4, List.mem_filter]
          unfold chgB
          rw [decide_eq_true_eq]
          refine ⟨fun h => h.2, fun h => ⟨(hUm p).2 ?_, h⟩⟩
          cases ea : findF a p with
          | some f => exact .inl ⟨f, findF_some ea⟩
          | none =>
            cases eb : findF b p with
            | some f => exact .inr ⟨f, findF_some eb⟩
            | none => rw [ea, eb] at h; exact absurd rfl h
end
end Go.Proofs.Qxb6500350aGreat
