/- PLAIN LAW: THE INDEX (9): CHECK. -/
import Derived.Test.Qxb6500350aGreatK57
import Derived.Test.Qxb6500350aGreatT109
set_option linter.unusedVariables false
set_option linter.unusedSimpArgs false
set_option maxHeartbeats 2000000
namespace Go.Proofs.Qxb6500350aGreat
open Go.Eng Go
/-- the nodes below d -/
def nodesX (L : Int → List Int) : Nat → Int → List Int
  | 0, _ => []
  | k + 1, d => (L d).flatMap fun c => c :: nodesX L k c
theorem nodesX_s (L : Int → List Int) (k : Nat) (d : Int) : nodesX L (k + 1) d = (L d).flatMap fun c => c :: nodesX L k c := rfl
section
variable {pl : Int → Nod} {free : Int} {L : Int → List Int} {pp : Int → Str} {Fr : List Int} {T : Int → Prop}
theorem nx_mem (h : XI pl free L pp Fr T) : ∀ {k : Nat} {d e : Int}, (d = 0 ∨ T d) → e ∈ nodesX L k d → T e ∧ ∃ c, c ∈ L d ∧ pp c <+: pp e
  | 0, _, _, _, he => by cases he
  | k + 1, d, e, hd, he => by
    rw [nodesX_s] at he
    obtain ⟨c, hc, he⟩ := List.mem_flatMap.1 he
    have hT := (h.dn d c hd hc).1
    rcases List.mem_cons.1 he with rfl | he
    · exact ⟨hT, e, hc, List.prefix_refl _⟩
    · obtain ⟨h1, c', h3, h4⟩ := nx_mem h (.inr hT) he
      have := (h.dn c c' (.inr hT) h3).2.1
      rw [this] at h4
      exact ⟨h1, c, hc, (List.prefix_append _ _).trans h4⟩
theorem sib_ne (h : XI pl free L pp Fr T) {d a b e : Int} (hd : d = 0 ∨ T d) (ha : a ∈ L d) (hb : b ∈ L d) (h1 : pp a <+: pp e) (h2 : pp b <+: pp e) : a = b := by
  have ha' := h.dn d a hd ha
  have hb' := h.dn d b hd hb
  rw [ha'.2.1] at h1
  rw [hb'.2.1] at h2
  obtain ⟨v, hv⟩ := h1
  have h2 := h2
  rw [← hv, List.append_assoc] at h2
  have h3 := prefix_strip h2
  have h4 : (pl b).name ++ [47] <+: (pl a).name ++ 47 :: v := by simpa using h3
  have := first_slash (h.nm a ha'.1).2 (h.nm b hb'.1).2 h4
  exact h.inj a b ha'.1 hb'.1 (by rw [ha'.2.1, hb'.2.1, this])
theorem nx_nodup (h : XI pl free L pp Fr T) : ∀ (k : Nat) (d : Int), (d = 0 ∨ T d) → (nodesX L k d).Nodup
  | 0, _, _ => .nil
  | k + 1, d, hd => by
    rw [nodesX_s, List.Nodup, List.pairwise_flatMap]
    refine ⟨fun c hc => ?_, ?_⟩
    · have hT := (h.dn d c hd hc).1
      refine List.pairwise_cons.2 ⟨fun e he hce => ?_, nx_nodup h k c (.inr hT)⟩
      obtain ⟨_, c', h3, h4⟩ := nx_mem h (.inr hT) he
      rw [(h.dn c c' (.inr hT) h3).2.1, ← hce] at h4
      have := h4.length_le
      simp at this
      omega
    · refine List.Pairwise.imp_of_mem ?_ (h.nodup hd)
      intro a b ha hb hab x hx y hy hxy
      subst hxy
      have hin : ∀ {c : Int}, c ∈ L d → x ∈ c :: nodesX L k c → pp c <+: pp x := by
        intro c hc hx
        have hT := (h.dn d c hd hc).1
        rcases List.mem_cons.1 hx with rfl | hx
        · exact List.prefix_refl _
        · obtain ⟨_, c', h3, h4⟩ := nx_mem h (.inr hT) hx
          rw [(h.dn c c' (.inr hT) h3).2.1] at h4
          exact (List.prefix_append _ _).trans h4
      exact hab (sib_ne h hd ha hb (hin ha hx) (hin hb hy))
theorem XI.cnt (h : XI pl free L pp Fr T) {d c : Int} (hd : d = 0 ∨ T d) (hc : c ∈ L d) : (pp c).count 47 = (pp d).count 47 + 1 := by
  have h1 := h.dn d c hd hc
  rw [h1.2.1, List.count_append, List.count_append, List.count_eq_zero_of_not_mem (h.nm c h1.1).2]
  simp
theorem nx_all (h : XI pl free L pp Fr T) (hg : ∀ c, T c → (pp c).count 47 ≤ 6) {c : Int} (hc : T c) : c ∈ nodesX L 6 0 := by
  have up : ∀ (m : Nat) (d : Int), (pp d).length ≤ m → (d = 0 ∨ T d) → (pp d).count 47 ≤ 6 → ∀ e, e ∈ nodesX L (6 - (pp d).count 47) d → e ∈ nodesX L 6 0 := by
    intro m
    induction m with
    | zero =>
      intro d hm hd _ e he
      rcases hd with rfl | hd
      · rw [h.pp0] at he; exact he
      · exact absurd (List.eq_nil_of_length_eq_zero (by omega)) (h.ppne hd)
    | succ m ih =>
      intro d hm hd hct e he
      rcases hd with rfl | hd
      · rw [h.pp0] at he; exact he
      · obtain ⟨d', hd', hdL⟩ := h.up d hd
        have hcn := h.cnt hd' hdL
        have h1 := h.dn d' d hd' hdL
        refine ih d' ?_ hd' (by omega) e ?_
        · rw [h1.2.1] at hm; simp only [List.length_append, List.length_cons, List.length_nil] at hm; omega
        · rw [show 6 - (pp d').count 47 = (6 - (pp d).count 47) + 1 by omega, nodesX_s]
          exact List.mem_flatMap.2 ⟨d, hdL, List.mem_cons_of_mem _ he⟩
  obtain ⟨d, hd, hdL⟩ := h.up c hc
  have hcn := h.cnt hd hdL
  have h6 := hg c hc
  refine up _ d (Nat.le_refl _) hd (by omega) c ?_
  rw [show 6 - (pp d).count 47 = (5 - (pp d).count 47) + 1 by omega, nodesX_s]
  exact List.mem_flatMap.2 ⟨c, hdL, by simp⟩
end
theorem meet_ok {n : Nat} {ta : Tally} {c : Int} (h0 : 1 ≤ c) (h1 : c ≤ 48) (hs : ta.seen c = false) : m201 n ta c = some { ta with seen := upI ta.seen c true } := by
  refine Ok.eq ?_
  unfold m201
  refine Ok_ob1 (Ok_ite (fun e => by omega) (fun _ => Ok_ite (fun e => by omega) (fun _ => Ok_ck (by omega) (by omega) (Ok.some' ?_))))
  rw [hs]
  exact Ok_cond (fun e => nomatch e) (fun _ => Ok_ck (by omega) (by omega) (Ok_nm (Ok.some' rfl)))
/-- the flags with the nodes l too -/
def seenW (s : Int → Bool) (l : List Int) : Int → Bool := fun i => s i || l.contains i
theorem seenW_nil (s : Int → Bool) : seenW s [] = s := by funext i; simp [seenW]
theorem seenW_snoc (s : Int → Bool) (l : List Int) (c : Int) : upI (seenW s l) c true = seenW s (l ++ [c]) := by
  funext i
  unfold upI seenW
  by_cases e : i = c
  · subst e; rw [if_pos rfl]; simp
  · rw [if_neg e]; simp [e]
theorem seenW_app (s : Int → Bool) (l m : List Int) : seenW (seenW s l) m = seenW s (l ++ m) := by funext i; unfold seenW; simp [Bool.or_assoc]
section
variable {x : Index} {L : Int → List Int} {pp : Int → Str} {Fr : List Int} {T : Int → Prop} {fs : List File}
theorem m200_s {n : Nat} {ta : Tally} {d depth : Int} {pre : Str} : m200 (n + 1) x ta d pre depth = Option.bind (ckA d 49) fun _ => flow (m200_w1 n x pre depth (m200 n) n [] ((x.pool d).child) 0 ta) some (un4 fun c4 c5 c6 z2 => some z2) := rfl
theorem keyN_ne {v : Nod} (h : v.name ≠ []) : keyN v ≠ [] := by unfold keyN; split; exact h; simp
theorem sound_ok (h : XI x.pool x.free L pp Fr T) (hg : ∀ c, T c → (x.pool c).file = true → goodP (pp c).dropLast = true) (h6 : ∀ c, T c → (pp c).count 47 ≤ 6) (h5 : ∀ c, T c → (x.pool c).file = false → (pp c).count 47 ≤ 5 ∧ (x.pool c).child ≠ 0) :
    ∀ (k : Nat) {n : Nat} {d : Int} {ta : Tally}, 100000 + k ≤ n → (d = 0 ∨ T d) → (pp d).count 47 + (k + 1) = 6 → ta.bad = false → (∀ e, e ∈ nodesX L (k + 1) d → ta.seen e = false) → -1000 ≤ ta.files → ta.files ≤ 1000 * (10 - (k : Int)) → (pp d).length ≤ 100 * (10 - k) → k ≤ 5 →
    m200 (n + 1) x ta d (pp d) ((k : Int) + 1) = some { seen := seenW ta.seen (nodesX L (k + 1) d), files := ta.files + (filesX x.pool L (k + 1) d).length, bad := false }
  | k, n, d, ta, hn, hd, hct, hbad, hun, hf0, hf1, hpl, hk5 => by
    refine Ok.eq ?_
    rw [m200_s]
    have hd48 := h.d48 hd
    have hlen := h.len hd
    have hnd := nx_nodup h (k + 1) d hd
    have hfl := fx_len (k := k + 1) h hd
    refine Ok_ck (by omega) (by omega) (Ok_flow ?_)
    unfold m200_w1
    refine Ok_it4 (fun (ky : Str) (c j : Int) (z : Tally) => 0 ≤ j ∧ ∃ l1 l2, L d = l1 ++ l2 ∧ j = l1.length ∧ Chx x.pool c l2 ∧ (l1 = [] ∧ ky = [] ∨ ∃ l0 a, l1 = l0 ++ [a] ∧ ky = keyN (x.pool a)) ∧
      z = { seen := seenW ta.seen (l1.flatMap fun c => c :: nodesX L k c), files := ta.files + (l1.flatMap fun c => if (x.pool c).file then [c] else filesX x.pool L k c).length, bad := false }) (fun _ (_ j : Int) _ => (49 - j).toNat) ?_ n [] _ 0 ta
      ⟨by omega, [], L d, rfl, rfl, h.chn d hd, .inl ⟨rfl, rfl⟩, by rw [List.flatMap_nil, List.flatMap_nil, seenW_nil]; cases ta; simp at hbad ⊢; exact hbad⟩ (by show ((49 : Int) - 0).toNat < n; omega)
    rintro Q lp ky c j hQ0 hQ ⟨i0, l1, l2, hL, rfl, i2, i3, rfl⟩ ih
    have hll := hlen
    rw [hL, List.length_append] at hll
    have hfl1 : (l1.flatMap fun c => if (x.pool c).file then [c] else filesX x.pool L k c).length ≤ 48 := by
      rw [filesX_s, hL, List.flatMap_append, List.length_append] at hfl; omega
    cases l2 with
    | nil =>
      have hc : c = 0 := i2
      rw [decide_eq_false (show ¬ ¬ c = 0 by omega), Bool.and_false, Bool.false_and]
      refine Ok_cond (fun e => nomatch e) (fun _ => Ok.some' (hQ _ (Ok.some' ?_)))
      rw [List.append_nil] at hL
      rw [nodesX_s, filesX_s, hL]
    | cons a r =>
      obtain ⟨rfl, a1, a2, a3⟩ := i2
      rw [List.length_cons] at hll
      have hcL : c ∈ L d := by rw [hL]; simp
      have hdn := h.dn d c hd hcL
      have hTc := hdn.1
      have hnml := h.nml c hTc
      have hcnt := h.cnt hd hcL
      have hnodes : nodesX L (k + 1) d = (l1.flatMap fun c => c :: nodesX L k c) ++ ((c :: nodesX L k c) ++ r.flatMap fun c => c :: nodesX L k c) := by
        rw [nodesX_s, hL, List.flatMap_append, List.flatMap_cons]
      rw [hnodes] at hnd
      have hunc : ∀ e, e ∈ c :: nodesX L k c → seenW ta.seen (l1.flatMap fun c => c :: nodesX L k c) e = false := by
        intro e he
        have h1 := hun e (by rw [hnodes]; exact List.mem_append_right _ (List.mem_append_left _ he))
        unfold seenW
        rw [h1, Bool.false_or, ← Bool.not_eq_true, List.contains_iff_mem]
        exact fun hm => (List.nodup_append.1 hnd).2.2 e hm e (List.mem_append_left _ he) rfl
      have hnd2 := (List.nodup_append.1 (List.nodup_append.1 hnd).2.1).1
      rw [decide_eq_true (show (l1.length : Int) < 49 by omega), decide_eq_true (show ¬ c = 0 by omega)]
      refine Ok_cond (fun _ => ?_) (fun e => nomatch e)
      refine Ok_cl1 (meet_ok a1 a2 (hunc c (by simp))) (Ok_cond (fun e => nomatch e) (fun _ => Ok_ck (by omega) (by omega) (Ok_nm (Ok_cl1 (keyOf_ok (by omega)) ?_))))
      have hkl : sLt ky (keyN (x.pool c)) = true := by
        rcases i3 with ⟨_, rfl⟩ | ⟨l0, b, rfl, rfl⟩
        · cases hk : keyN (x.pool c) with
          | nil => exact absurd hk (keyN_ne (h.nm c hTc).1)
          | cons u v => rfl
        · have hsrt := h.srt d hd
          rw [hL] at hsrt
          exact (List.pairwise_append.1 hsrt).2.2 b (by simp) c (by simp)
      have hcc : ((sLt (keyN (x.pool c)) ky || decide (keyN (x.pool c) = ky)) || decide (((k : Int) + 1) < 1)) = false := by
        rw [sLt_asymm hkl, decide_eq_false (fun e => by rw [e, sLt_irrefl] at hkl; cases hkl), decide_eq_false (by omega)]; rfl
      rw [hcc]
      refine Ok_cond (fun e => nomatch e) (fun _ => ?_)
      have next : ∀ z', z' = ({ seen := seenW ta.seen ((l1 ++ [c]).flatMap fun c => c :: nodesX L k c), files := ta.files + ((l1 ++ [c]).flatMap fun c => if (x.pool c).file then [c] else filesX x.pool L k c).length, bad := false } : Tally) → Ok (lp (keyN (x.pool c)) (x.pool c).nxt (wi ((l1.length : Int) + 1)) z') Q := by
        intro z' hz'
        rw [wi_e (by omega) (by omega)]
        exact ih _ _ _ _ ⟨by omega, l1 ++ [c], r, by rw [hL]; simp, by simp, a3, .inr ⟨l1, c, rfl, rfl⟩, hz'⟩ (by omega)
      have hs1 : seenW ta.seen ((l1 ++ [c]).flatMap fun c => c :: nodesX L k c) = seenW (upI (seenW ta.seen (l1.flatMap fun c => c :: nodesX L k c)) c true) (nodesX L k c) := by
        rw [seenW_snoc, seenW_app, List.flatMap_append, List.flatMap_singleton, List.append_assoc]; rfl
      refine Ok_cond (fun hf => ?_) (fun hf => ?_)
      · have hfil := h.fil c hTc hf
        have hLc := h.lfile hTc hf
        have hch : (x.pool c).child = 0 := by have := h.chn c (.inr hTc); rw [hLc] at this; exact this
        have hpath : pp d ++ (x.pool c).name = (pp c).dropLast := by rw [hdn.2.1, ← List.append_assoc, List.dropLast_concat]
        refine Ok_nm (Ok_sAdd (by omega) (Ok_cl1 (goodPath_ok (by omega)) (Ok_cl1 (hashX_ok (by omega) (by omega)) ?_)))
        rw [hpath, hg c hTc hf, hch, hfil.1, hfil.2.1]
        have hm0 := hfil.2.2.1
        have hm1 := hfil.2.2.2.1
        have hm2 := hfil.2.2.2.2
        have : (((((((!true) || (decide (¬ ((0 : Int) = 0)))) || (decide ((x.pool c).mode < 0))) || (decide ((3 : Int) < (x.pool c).mode))) || (decide (¬ (((x.pool c).data.length : Int) = ((x.pool c).data.length : Int))))) || (decide ((180 : Int) < ((x.pool c).data.length : Int)))) || (decide (¬ (hv (x.pool c).data = hv (x.pool c).data)))) = false := by
          rw [decide_eq_false (show ¬ (x.pool c).mode < 0 by omega), decide_eq_false (show ¬ (3 : Int) < (x.pool c).mode by omega), decide_eq_false (show ¬ (180 : Int) < ((x.pool c).data.length : Int) by omega)]
          simp
        rw [this]
        refine Ok_cond (fun e => nomatch e) (fun _ => next _ ?_)
        rw [hs1]
        have hnk : nodesX L k c = [] := by cases k with | zero => rfl | succ k => rw [nodesX_s, hLc]; rfl
        rw [hnk, seenW_nil, List.flatMap_append, List.flatMap_singleton, if_pos hf, List.length_append, List.length_singleton]
        congr 1
        show wi (ta.files + ((l1.flatMap fun c => if (x.pool c).file then [c] else filesX x.pool L k c).length : Int) + 1) = _
        rw [wi_e (by omega) (by omega)]; omega
      · have hdir := h.dir c hTc hf
        obtain ⟨hc5, hch⟩ := h5 c hTc hf
        obtain ⟨k', rfl⟩ : ∃ k', k = k' + 1 := ⟨k - 1, by omega⟩
        obtain ⟨n', rfl⟩ : ∃ n', n = n' + 1 := ⟨n - 1, by omega⟩
        rw [hdir.1, hdir.2.1, hdir.2.2.1, hdir.2.2.2, decide_eq_false hch]
        refine Ok_ob1 (Ok_cond (fun e => absurd e (by decide)) (fun _ => Ok.some' ?_))
        refine Ok_sAdd (by omega) (Ok_sAdd (by simp; omega) ?_)
        have hdep : wi (((k' + 1 : Nat) : Int) + 1 - 1) = (k' : Int) + 1 := by rw [wi_e (by omega) (by omega)]; omega
        have hpp : pp d ++ (x.pool c).name ++ [47] = pp c := by rw [hdn.2.1]; simp
        have hplen : (pp c).length = (pp d).length + (x.pool c).name.length + 1 := by rw [hdn.2.1]; simp; omega
        rw [hdep, hpp]
        have hc2 := (List.nodup_cons.1 hnd2).1
        refine Ok_cl1 (sound_ok h hg h6 h5 k' (ta := { seen := upI (seenW ta.seen (l1.flatMap fun c => c :: nodesX L (k' + 1) c)) c true, files := ta.files + (l1.flatMap fun c => if (x.pool c).file then [c] else filesX x.pool L (k' + 1) c).length, bad := false }) (by omega) (.inr hTc) (by omega) rfl (fun e he => ?_) (by show -1000 ≤ ta.files + _; omega) (by show ta.files + _ ≤ _; omega) (by omega) (by omega)) (next _ ?_)
        · show upI _ c true e = false
          unfold upI
          rw [if_neg (fun e2 : e = c => hc2 (e2 ▸ he))]
          exact hunc e (List.mem_cons_of_mem _ he)
        · rw [hs1, List.flatMap_append, List.flatMap_singleton, hf, if_neg (by decide), List.length_append]
          congr 1
          show ta.files + _ + _ = _
          omega
theorem check_x {n : Nat} (hn : 100010 ≤ n) (h : XF x fs) : m109 n x = some true := by
  have hlist := list_x hn h
  have hxf := h
  obtain ⟨L, pp, Fr, T, hx, hs, hfl, hl⟩ := h
  obtain ⟨n', rfl⟩ : ∃ n', n = n' + 1 := ⟨n - 1, by omega⟩
  have hnum := hl.num
  have hrow : ∀ c, T c → (x.pool c).file = true → ∃ f, f ∈ fs ∧ pp c = f.path ++ [47] := by
    intro c hc hf
    obtain ⟨a, ha⟩ := (hx.ppend (.inr hc)).resolve_left (hx.ppne hc)
    exact ⟨_, (hs.row { path := a, data := (x.pool c).data, mode := (x.pool c).mode }).2 ⟨c, hc, hf, ha, rfl, rfl⟩, ha⟩
  have hg : ∀ c, T c → (x.pool c).file = true → goodP (pp c).dropLast = true := fun c hc hf => by
    obtain ⟨f, h1, h2⟩ := hrow c hc hf
    rw [h2, List.dropLast_concat]; exact hl.good f h1
  have hcf : ∀ c, T c → (x.pool c).file = true → (pp c).count 47 ≤ 6 := fun c hc hf => by
    obtain ⟨f, h1, h2⟩ := hrow c hc hf
    rw [h2]; exact way_count (goodP_rel (hl.good f h1)).way
  have hcd : ∀ c, T c → (x.pool c).file = false → (pp c).count 47 ≤ 5 := fun c hc hf => by
    obtain ⟨f, h1, v, hv⟩ := hs.sup c hc hf
    have := way_count (goodP_rel (hl.good f h1)).way
    rw [List.count_append, ← hv, List.count_append] at this
    simp at this
    omega
  have h6 : ∀ c, T c → (pp c).count 47 ≤ 6 := fun c hc => by
    cases hf : (x.pool c).file with
    | true => exact hcf c hc hf
    | false => have := hcd c hc hf; omega
  have hchild : ∀ c, T c → (x.pool c).file = false → (x.pool c).child ≠ 0 := by
    intro c hc hf e
    obtain ⟨f, h1, hp⟩ := hs.sup c hc hf
    obtain ⟨a, a1, a2, a3, _⟩ := (hs.row f).1 h1
    have hLc : L c = [] := by
      have := hx.chn c (.inr hc)
      cases hL : L c with
      | nil => rfl
      | cons b l => rw [hL, e] at this; obtain ⟨e1, e2, _⟩ := this; omega
    -- the file below c hangs from a child of c
    have : ∀ (m : Nat) a, (pp a).length ≤ m → T a → pp c <+: pp a → a ≠ c → False := by
      intro m
      induction m with
      | zero => intro a hm ha; exact absurd (List.eq_nil_of_length_eq_zero (by omega)) (hx.ppne ha)
      | succ m ih =>
        intro a hm ha hpa hac
        obtain ⟨d, hd, hdL⟩ := hx.up a ha
        have h2 := (hx.dn d a hd hdL).2.1
        have hne : pp c ≠ pp a := fun e2 => hac (hx.inj a c ha hc e2.symm)
        rw [h2] at hpa hne
        have h3 := prefix_snoc (hx.nm a ha).2 ((hx.ppend (.inr hc)).resolve_left (hx.ppne hc)) hpa hne
        rcases hd with rfl | hd
        · rw [hx.pp0] at h3; exact hx.ppne hc (List.prefix_nil.1 h3)
        · by_cases edc : d = c
          · rw [edc, hLc] at hdL; cases hdL
          · refine ih d ?_ hd h3 edc
            rw [h2] at hm
            simp only [List.length_append, List.length_cons, List.length_nil] at hm
            omega
    refine this _ a (Nat.le_refl _) a1 (by rw [a3]; exact hp.trans (List.prefix_append _ _)) (fun e2 => ?_)
    rw [e2, hf] at a2; cases a2
  have hso := sound_ok hx hg h6 (fun c hc hf => ⟨hcd c hc hf, hchild c hc hf⟩) 5 (n := n') (d := 0) (ta := Tally.zero) (by omega) (.inl rfl) (by rw [hx.pp0]; simp) rfl (fun e _ => rfl) (by show (-1000 : Int) ≤ 0; omega) (by show (0 : Int) ≤ _; omega) (by rw [hx.pp0]; simp) (by omega)
  rw [hx.pp0] at hso
  have hso : m200 (n' + 1) x Tally.zero 0 [] 6 = some { seen := seenW Tally.zero.seen (nodesX L 6 0), files := (Tally.zero.files : Int) + (filesX x.pool L 6 0).length, bad := false } := hso
  -- the number of files
  obtain ⟨R, r1, r2, r3⟩ := rows_x hn hxf
  have hgat := gather_ok hx 5 (n := n') (d := 0) (out := []) (by omega) (.inl rfl) (by rw [hx.pp0]; simp) (by simp) (by omega)
  rw [hx.pp0] at hgat
  have hgat : m207 (n' + 1) x 0 [] 6 [] = some ([] ++ (filesX x.pool L 6 0).map (rowN pp x.pool)) := hgat
  have hRe : R = (filesX x.pool L 6 0).map (rowN pp x.pool) := by rw [r1] at hgat; simpa using Option.some.inj hgat
  have hcount : ((filesX x.pool L 6 0).length : Int) = fs.length := by
    have := congrArg List.length r2
    rw [hRe] at this
    simp only [List.length_map] at this
    omega
  refine Ok.eq ?_
  unfold m109
  refine Ok_nm ?_
  have hroot := hx.root
  have hrc : (((((((!(decide ((x.pool 0).name = []))) || (decide (¬ ((x.pool 0).nxt = 0)))) || (x.pool 0).file) || (!(decide ((x.pool 0).data = [])))) || (decide (¬ ((x.pool 0).mode = 0)))) || (decide (¬ ((x.pool 0).size = 0)))) || (decide (¬ ((x.pool 0).hash = 0)))) = false := by
    rw [hroot]; rfl
  rw [hrc]
  refine Ok_cond (fun e => nomatch e) (fun _ => Ok_cl1 hso ?_)
  have hz : (Tally.zero.files : Int) = 0 := rfl
  have hcc : ((false || (decide (¬ ((Tally.zero.files : Int) + (filesX x.pool L 6 0).length = x.files)))) || (decide ((8 : Int) < (Tally.zero.files : Int) + (filesX x.pool L 6 0).length))) = false := by
    rw [decide_eq_false (show ¬ ¬ (Tally.zero.files : Int) + (filesX x.pool L 6 0).length = x.files by omega), decide_eq_false (by omega)]; rfl
  rw [hcc]
  refine Ok_cond (fun e => nomatch e) (fun _ => Ok_flow ?_)
  have hnT : ∀ c, c ∈ nodesX L 6 0 ↔ T c := fun c => ⟨fun hm => (nx_mem hx (.inl rfl) hm).1, fun hc => nx_all hx h6 hc⟩
  have hflen : Fr.length ≤ 48 := by
    have := nodup_sub_le (U := ids) hx.frn (fun c hc => mem_ids.2 ⟨((hx.frm c).1 hc).1, ((hx.frm c).1 hc).2.1⟩)
    rw [ids_len] at this; exact this
  unfold m109_w1
  refine Ok_it3 (fun (c j : Int) (z : Tally) => 0 ≤ j ∧ ∃ l1 l2, Fr = l1 ++ l2 ∧ j = l1.length ∧ Chx x.pool c l2 ∧ z = { seen := seenW (seenW Tally.zero.seen (nodesX L 6 0)) l1, files := (Tally.zero.files : Int) + (filesX x.pool L 6 0).length, bad := false }) (fun (_ j : Int) _ => (49 - j).toNat) ?_ (n' + 1) _ 0 _ ⟨by omega, [], Fr, rfl, rfl, hx.frc, by rw [seenW_nil]⟩ (by show ((49 : Int) - 0).toNat < n' + 1; omega)
  rintro Q lp c j z hQ ⟨i0, l1, l2, hF, rfl, i2, rfl⟩ ih
  have hfl2 := hflen
  rw [hF, List.length_append] at hfl2
  cases l2 with
  | nil =>
    have hc : c = 0 := i2
    refine Ok_ite2 (fun _ e => absurd hc e) (fun _ => Ok.some' (hQ _ (Ok_flow ?_)))
    clear ih hQ
    rw [List.append_nil] at hF
    unfold m109_w2
    refine Ok_it1 (fun (k : Int) => 1 ≤ k ∧ k ≤ 49) (fun (k : Int) => (49 - k).toNat) ?_ (n' + 1) 1 ⟨by omega, by omega⟩ (by show ((49 : Int) - 1).toNat < n' + 1; omega)
    rintro Q lp k hQ ⟨j0, j1⟩ ih
    refine Ok_ite (fun hk => Ok_ck (by omega) (by omega) ?_) (fun hk => Ok.some' (hQ _ ?_))
    · have hseen : seenW (seenW Tally.zero.seen (nodesX L 6 0)) l1 k = true := by
        unfold seenW
        rw [Bool.or_eq_true, Bool.or_eq_true, List.contains_iff_mem, List.contains_iff_mem, hnT k, ← hF, hx.frm k]
        by_cases hT : T k
        · exact .inl (.inr hT)
        · exact .inr ⟨j0, by omega, hT⟩
      show Ok (cond (!(seenW (seenW Tally.zero.seen (nodesX L 6 0)) l1 k)) _ _) Q
      rw [hseen]
      refine Ok_cond (fun e => nomatch e) (fun _ => ?_)
      rw [wi_e (by omega) (by omega)]
      exact ih _ ⟨by omega, by omega⟩ (by omega)
    · refine Ok_cl1 hlist (Ok_cl1 (checkFiles_ok (by omega)) (Ok.some' ?_))
      exact decide_eq_true (chkF_iff.2 hl)
  | cons a r =>
    obtain ⟨rfl, a1, a2, a3⟩ := i2
    rw [List.length_cons] at hfl2
    have hcF : c ∈ Fr := by rw [hF]; simp
    have hcf := (hx.frm c).1 hcF
    have hun : seenW (seenW Tally.zero.seen (nodesX L 6 0)) l1 c = false := by
      rw [← Bool.not_eq_true]
      unfold seenW
      rw [Bool.or_eq_true, Bool.or_eq_true, List.contains_iff_mem, List.contains_iff_mem, hnT c]
      rintro ((e | e) | e)
      · exact nomatch (show false = true from e)
      · exact hcf.2.2 e
      · have := hx.frn
        rw [hF] at this
        exact (List.nodup_append.1 this).2.2 c e c (by simp) rfl
    refine Ok_ite2 (fun _ _ => Ok_cl1 (meet_ok a1 a2 hun) (Ok_cond (fun e => nomatch e) (fun _ => Ok_ck (by omega) (by omega) (Ok_nm ?_)))) (fun e => absurd (show ¬ c = 0 by omega) (e (by omega)))
    have hz := hx.frz c hcF
    have hcz : (((((((!(decide ((x.pool c).name = []))) || (decide (¬ ((x.pool c).child = 0)))) || (x.pool c).file) || (!(decide ((x.pool c).data = [])))) || (decide (¬ ((x.pool c).mode = 0)))) || (decide (¬ ((x.pool c).size = 0)))) || (decide (¬ ((x.pool c).hash = 0)))) = false := by
      rw [hz]; rfl
    rw [hcz]
    refine Ok_cond (fun e => nomatch e) (fun _ => ?_)
    rw [wi_e (by omega) (by omega)]
    refine ih _ _ _ ⟨by omega, l1 ++ [c], r, by rw [hF]; simp, by simp, a3, ?_⟩ (by omega)
    show ({ seen := upI (seenW (seenW Tally.zero.seen (nodesX L 6 0)) l1) c true, files := (Tally.zero.files : Int) + (filesX x.pool L 6 0).length, bad := false } : Tally) = _
    rw [seenW_snoc]
end
end Go.Proofs.Qxb6500350aGreat
