/- PLAIN LAW: THE INDEX (5): GATHER, LIST, GET, SET, LOAD. -/
import Derived.Test.Qxb6500350aGreatK52
import Derived.Test.Qxb6500350aGreatT122
import Derived.Test.Qxb6500350aGreatT173
import Derived.Test.Qxb6500350aGreatT183
import Derived.Test.Qxb6500350aGreatT120
set_option linter.unusedVariables false
set_option linter.unusedSimpArgs false
set_option maxHeartbeats 1000000
namespace Go.Proofs.Qxb6500350aGreat
open Go.Eng Go
theorem sLt_ext : ∀ {p q w : Str}, sLt p q = true → ¬ p <+: q → sLt (p ++ w) q = true
  | [], _, _, _, h => absurd List.nil_prefix h
  | _ :: _, [], _, h, _ => nomatch h
  | a :: p, b :: q, w, h, hn => by
    rw [List.cons_append]
    refine sLt_cons'.2 ?_
    rcases sLt_cons'.1 h with h1 | ⟨rfl, h1⟩
    · exact .inl h1
    · exact .inr ⟨rfl, sLt_ext h1 (fun ⟨v, hv⟩ => hn ⟨v, by rw [List.cons_append, hv]⟩)⟩
theorem sLe_of_lt {p q : Str} (h : sLt p q = true) : sLe p q := sLt_asymm h
/-- the file nodes below d, in the order of the walk -/
def filesX (pl : Int → Nod) (L : Int → List Int) : Nat → Int → List Int
  | 0, _ => []
  | k + 1, d => (L d).flatMap fun c => if (pl c).file then [c] else filesX pl L k c
def rowN (pp : Int → Str) (pl : Int → Nod) (c : Int) : Row_ := { f := { path := (pp c).dropLast, data := (pl c).data, mode := (pl c).mode }, size := (pl c).size, hash := (pl c).hash }
section
variable {pl : Int → Nod} {free : Int} {L : Int → List Int} {pp : Int → Str} {Fr : List Int} {T : Int → Prop}
theorem filesX_s (k : Nat) (d : Int) : filesX pl L (k + 1) d = (L d).flatMap fun c => if (pl c).file then [c] else filesX pl L k c := rfl
theorem fx_mem (h : XI pl free L pp Fr T) : ∀ {k : Nat} {d e : Int}, (d = 0 ∨ T d) → e ∈ filesX pl L k d → T e ∧ (pl e).file = true ∧ ∃ c, c ∈ L d ∧ pp c <+: pp e ∧ ((pl c).file = true → e = c)
  | 0, _, _, _, he => by cases he
  | k + 1, d, e, hd, he => by
    rw [filesX_s] at he
    obtain ⟨c, hc, he⟩ := List.mem_flatMap.1 he
    have hT := (h.dn d c hd hc).1
    cases hf : (pl c).file with
    | true =>
      rw [hf, if_pos rfl, List.mem_singleton] at he
      subst he
      exact ⟨hT, hf, e, hc, List.prefix_refl _, fun _ => rfl⟩
    | false =>
      rw [hf, if_neg (by decide)] at he
      obtain ⟨h1, h2, c', h3, h4, h5⟩ := fx_mem h (.inr hT) he
      refine ⟨h1, h2, c, hc, ?_, fun e => by rw [hf] at e; cases e⟩
      have := (h.dn c c' (.inr hT) h3).2.1
      rw [this] at h4
      exact (List.prefix_append _ _).trans h4
theorem XI.dl (h : XI pl free L pp Fr T) {c : Int} (hc : T c) : pp c = (pp c).dropLast ++ [47] := by
  obtain ⟨a, ha⟩ := (h.ppend (.inr hc)).resolve_left (h.ppne hc)
  rw [ha]; simp
theorem fx_path (h : XI pl free L pp Fr T) {d c e : Int} (hd : d = 0 ∨ T d) (hc : c ∈ L d) (he : T e) (hef : (pl e).file = true) (hp : pp c <+: pp e) (hce : (pl c).file = true → e = c) : ∃ r, (pp e).dropLast = pp d ++ (keyN (pl c) ++ r) ∧ ((pl c).file = true → r = []) := by
  have h1 := h.dn d c hd hc
  have hel := h.dl he
  cases hf : (pl c).file with
  | true =>
    have := hce hf
    subst this
    refine ⟨[], ?_, fun _ => rfl⟩
    rw [h1.2.1]
    unfold keyN
    rw [if_pos hf, ← List.append_assoc, List.dropLast_concat, List.append_nil]
  | false =>
    have hne : pp c ≠ pp e := fun e2 => by have := h.inj c e h1.1 he e2; rw [this, hef] at hf; cases hf
    obtain ⟨v, hv⟩ := hp
    have hv0 : v ≠ [] := fun e2 => hne (by rw [← hv, e2]; simp)
    refine ⟨v.dropLast, ?_, fun e2 => by cases e2⟩
    rw [← hv, List.dropLast_append_of_ne_nil hv0, h1.2.1]
    unfold keyN
    rw [hf, if_neg (by decide)]
    simp
theorem fx_srt (h : XI pl free L pp Fr T) : ∀ (k : Nat) (d : Int), (d = 0 ∨ T d) → (filesX pl L k d).Pairwise fun a b => sLt (pp a).dropLast (pp b).dropLast = true
  | 0, _, _ => .nil
  | k + 1, d, hd => by
    rw [filesX_s, List.pairwise_flatMap]
    refine ⟨fun c hc => ?_, ?_⟩
    · have hT := (h.dn d c hd hc).1
      cases hf : (pl c).file with
      | true => rw [if_pos rfl]; simp
      | false => rw [if_neg (by decide)]; exact fx_srt h k c (.inr hT)
    · refine List.Pairwise.imp_of_mem ?_ (h.srt d hd)
      intro a b ha hb hab x hx y hy
      have hTa := (h.dn d a hd ha).1
      have hTb := (h.dn d b hd hb).1
      have hin : ∀ {c z : Int}, c ∈ L d → T c → z ∈ (if (pl c).file = true then [c] else filesX pl L k c) → T z ∧ (pl z).file = true ∧ pp c <+: pp z ∧ ((pl c).file = true → z = c) := by
        intro c z hc hT hz
        cases hf : (pl c).file with
        | true =>
          rw [hf, if_pos rfl, List.mem_singleton] at hz
          subst hz; exact ⟨hT, hf, List.prefix_refl _, fun _ => rfl⟩
        | false =>
          rw [hf, if_neg (by decide)] at hz
          obtain ⟨h1, h2, c', h3, h4, _⟩ := fx_mem h (.inr hT) hz
          have := (h.dn c c' (.inr hT) h3).2.1
          rw [this] at h4
          exact ⟨h1, h2, (List.prefix_append _ _).trans h4, fun e => by cases e⟩
      obtain ⟨x1, x2, x3, x4⟩ := hin ha hTa hx
      obtain ⟨y1, y2, y3, y4⟩ := hin hb hTb hy
      obtain ⟨r1, e1, f1⟩ := fx_path h hd ha x1 x2 x3 x4
      obtain ⟨r2, e2, f2⟩ := fx_path h hd hb y1 y2 y3 y4
      rw [e1, e2, sLt_app]
      refine sLt_of_lt_le ?_ (sLe_app (keyN (pl b)) r2)
      cases hf : (pl a).file with
      | true => rw [f1 hf, List.append_nil]; exact hab
      | false =>
        refine sLt_ext hab (fun hp => ?_)
        have hka : keyN (pl a) = (pl a).name ++ [47] := by unfold keyN; rw [hf]; rfl
        have hna := (h.nm a hTa).2
        have hnb := (h.nm b hTb).2
        rw [hka] at hp hab
        cases hfb : (pl b).file with
        | true =>
          have hkb : keyN (pl b) = (pl b).name := by unfold keyN; rw [hfb]; rfl
          rw [hkb] at hp
          obtain ⟨v, hv⟩ := hp
          exact hnb (by rw [← hv]; simp)
        | false =>
          have hkb : keyN (pl b) = (pl b).name ++ 47 :: [] := by unfold keyN; rw [hfb]; rfl
          rw [hkb] at hp hab
          have := first_slash hnb hna hp
          rw [this, sLt_irrefl] at hab; cases hab
theorem fx_len (h : XI pl free L pp Fr T) {k : Nat} {d : Int} (hd : d = 0 ∨ T d) : (filesX pl L k d).length ≤ 48 := by
  have hnd : (filesX pl L k d).Nodup := by
    refine List.Pairwise.imp ?_ (fx_srt h k d hd)
    intro a b hab e; subst e; rw [sLt_irrefl] at hab; cases hab
  have := nodup_sub_le (U := ids) hnd (fun c hc => mem_ids.2 (h.rng c (fx_mem h hd hc).1))
  rw [ids_len] at this; exact this
theorem way_count : ∀ {m : Nat} {w : Str}, Way m w → w.count 47 ≤ m
  | 0, w, h => by rw [show w = [] from h]; simp
  | m + 1, w, h => by
    rcases h with rfl | ⟨y, w', rfl, _, hy, hw⟩
    · simp
    · have := way_count hw
      rw [List.count_append, List.count_eq_zero_of_not_mem hy, List.count_cons_self]; omega
theorem fx_all (h : XI pl free L pp Fr T) (hg : ∀ c, T c → (pl c).file = true → (pp c).count 47 ≤ 6) {c : Int} (hc : T c) (hf : (pl c).file = true) : c ∈ filesX pl L 6 0 := by
  have cnt : ∀ d c, (d = 0 ∨ T d) → c ∈ L d → (pp c).count 47 = (pp d).count 47 + 1 := by
    intro d c hd hc
    have h1 := h.dn d c hd hc
    rw [h1.2.1, List.count_append, List.count_append, List.count_eq_zero_of_not_mem (h.nm c h1.1).2]
    simp
  have up : ∀ (m : Nat) (d : Int), (pp d).length ≤ m → (d = 0 ∨ T d) → (pp d).count 47 ≤ 6 → ∀ e, e ∈ filesX pl L (6 - (pp d).count 47) d → e ∈ filesX pl L 6 0 := by
    intro m
    induction m with
    | zero =>
      intro d hm hd _ e he
      rcases hd with rfl | hd
      · rw [h.pp0] at he; exact he
      · exact absurd (List.eq_nil_of_length_eq_zero (by omega)) (h.ppne hd)
    | succ m ih =>
      intro d hm hd hct e he
      rcases hd with rfl | hd
      · rw [h.pp0] at he; exact he
      · obtain ⟨d', hd', hdL⟩ := h.up d hd
        have hcn := cnt d' d hd' hdL
        have h1 := h.dn d' d hd' hdL
        refine ih d' ?_ hd' (by omega) e ?_
        · rw [h1.2.1] at hm; simp only [List.length_append, List.length_cons, List.length_nil] at hm; omega
        · rw [show 6 - (pp d').count 47 = (6 - (pp d).count 47) + 1 by omega, filesX_s]
          refine List.mem_flatMap.2 ⟨d, hdL, ?_⟩
          cases hfd : (pl d).file with
          | true =>
            exfalso
            cases hk : 6 - (pp d).count 47 with
            | zero => rw [hk] at he; cases he
            | succ k => rw [hk, filesX_s, h.lfile hd hfd] at he; cases he
          | false => rw [if_neg (by decide)]; exact he
  obtain ⟨d, hd, hdL⟩ := h.up c hc
  have hcn := cnt d c hd hdL
  have h6 := hg c hc hf
  refine up _ d (Nat.le_refl _) hd (by omega) c ?_
  rw [show 6 - (pp d).count 47 = (5 - (pp d).count 47) + 1 by omega, filesX_s]
  exact List.mem_flatMap.2 ⟨c, hdL, by rw [hf]; simp⟩
end
theorem sorted_str {α : Type} {f : α → Str} : ∀ {a b : List α}, a.Pairwise (fun x y => sLt (f x) (f y) = true) → b.Pairwise (fun x y => sLt (f x) (f y) = true) → (∀ x, x ∈ a ↔ x ∈ b) → a = b
  | [], [], _, _, _ => rfl
  | [], y :: b, _, _, h => absurd ((h y).2 (by simp)) (by simp)
  | x :: a, [], _, _, h => absurd ((h x).1 (by simp)) (by simp)
  | x :: a, y :: b, ha, hb, h => by
    obtain ⟨a1, a2⟩ := List.pairwise_cons.1 ha
    obtain ⟨b1, b2⟩ := List.pairwise_cons.1 hb
    have irr : ∀ {p q : Str}, sLt p q = true → sLt q p = true → False := fun h1 h2 => by rw [sLt_asymm h1] at h2; cases h2
    have hxy : x = y := by
      rcases List.mem_cons.1 ((h x).1 (by simp)) with h1 | h1
      · exact h1
      · rcases List.mem_cons.1 ((h y).2 (by simp)) with h2 | h2
        · exact h2.symm
        · exact (irr (a1 y h2) (b1 x h1)).elim
    subst hxy
    congr 1
    refine sorted_str a2 b2 fun z => ⟨fun hz => ?_, fun hz => ?_⟩
    · rcases List.mem_cons.1 ((h z).1 (List.mem_cons_of_mem _ hz)) with rfl | h1
      · exact (irr (a1 z hz) (a1 z hz)).elim
      · exact h1
    · rcases List.mem_cons.1 ((h z).2 (List.mem_cons_of_mem _ hz)) with rfl | h1
      · exact (irr (b1 z hz) (b1 z hz)).elim
      · exact h1
section
variable {x : Index} {L : Int → List Int} {pp : Int → Str} {Fr : List Int} {T : Int → Prop} {fs : List File}
theorem m207_s {n : Nat} {d depth : Int} {pre : Str} {out : List Row_} : m207 (n + 1) x d pre depth out = Option.bind (ckA d 49) fun _ => ob3 (m207_w1 n x pre depth (m207 n) n out ((x.pool d).child) 0) fun l2 c3 c4 => some l2 := rfl
theorem gather_ok (h : XI x.pool x.free L pp Fr T) : ∀ (k : Nat) {n : Nat} {d : Int} {out : List Row_}, 100000 + k ≤ n → (d = 0 ∨ T d) → (pp d).length + 20 * k ≤ 100000 → out.length ≤ 1000 * (10 - k) → k ≤ 10 →
    m207 (n + 1) x d (pp d) ((k : Int) + 1) out = some (out ++ (filesX x.pool L (k + 1) d).map (rowN pp x.pool))
  | k, n, d, out, hn, hd, hpd, ho, hk10 => by
    refine Ok.eq ?_
    rw [m207_s]
    have hd48 := h.d48 hd
    have hlen := h.len hd
    refine Ok_ck (by omega) (by omega) (Ok_ob3 ?_)
    have htot := fx_len (k := k + 1) h hd
    unfold m207_w1
    refine Ok_it3 (fun (l : List Row_) (c j : Int) => 0 ≤ j ∧ ∃ l1 l2, L d = l1 ++ l2 ∧ j = l1.length ∧ Chx x.pool c l2 ∧ l = out ++ (l1.flatMap fun c => if (x.pool c).file then [c] else filesX x.pool L k c).map (rowN pp x.pool)) (fun _ (_ j : Int) => (49 - j).toNat) ?_ n out _ 0 ⟨by omega, [], L d, rfl, rfl, h.chn d hd, by simp⟩ (by show ((49 : Int) - 0).toNat < n; omega)
    rintro Q lp l c j hQ ⟨i0, l1, l2, hL, rfl, i2, rfl⟩ ih
    have hll := hlen
    rw [hL, List.length_append] at hll
    have htl : ((l1.flatMap fun c => if (x.pool c).file then [c] else filesX x.pool L k c)).length ≤ 48 := by
      rw [filesX_s, hL, List.flatMap_append, List.length_append] at htot; omega
    cases l2 with
    | nil =>
      have hc : c = 0 := i2
      refine Ok_ite2 (fun _ e => absurd hc e) (fun _ => Ok.some' (hQ _ (Ok.some' ?_)))
      rw [filesX_s, hL, List.append_nil]
    | cons a r =>
      obtain ⟨rfl, a1, a2, a3⟩ := i2
      rw [List.length_cons] at hll
      have hcL : c ∈ L d := by rw [hL]; simp
      have hdn := h.dn d c hd hcL
      have hnml := h.nml c hdn.1
      have hplen : (pp c).length = (pp d).length + (x.pool c).name.length + 1 := by rw [hdn.2.1]; simp; omega
      have next : ∀ l', l' = out ++ ((l1 ++ [c]).flatMap fun c => if (x.pool c).file then [c] else filesX x.pool L k c).map (rowN pp x.pool) → Ok (lp l' (x.pool c).nxt (wi ((l1.length : Int) + 1))) Q := by
        intro l' hl'
        rw [wi_e (by omega) (by omega)]
        exact ih _ _ _ ⟨by omega, l1 ++ [c], r, by rw [hL]; simp, by simp, a3, hl'⟩ (by omega)
      refine Ok_ite2 (fun _ _ => Ok_ck (by omega) (by omega) (Ok_nm ?_)) (fun e => absurd (show ¬ c = 0 by omega) (e (by omega)))
      refine Ok_cond (fun hf => ?_) (fun hf => ?_)
      · refine Ok_sAdd (by omega) (Ok_apd (by rw [List.length_append, List.length_map]; omega) (next _ ?_))
        rw [List.flatMap_append, List.map_append, ← List.append_assoc]
        congr 1
        rw [List.flatMap_singleton, if_pos hf]
        show [_] = [rowN pp x.pool c]
        unfold rowN
        rw [hdn.2.1, ← List.append_assoc, List.dropLast_concat]
      · refine Ok_ite (fun hk => ?_) (fun hk => next _ ?_)
        · obtain ⟨k', rfl⟩ : ∃ k', k = k' + 1 := ⟨k - 1, by omega⟩
          obtain ⟨n', rfl⟩ : ∃ n', n = n' + 1 := ⟨n - 1, by omega⟩
          refine Ok_sAdd (by omega) (Ok_sAdd (by simp; omega) ?_)
          have hdep : wi (((k' + 1 : Nat) : Int) + 1 - 1) = (k' : Int) + 1 := by rw [wi_e (by omega) (by omega)]; omega
          have hpp : pp d ++ (x.pool c).name ++ [47] = pp c := by rw [hdn.2.1]; simp
          rw [hdep, hpp]
          refine Ok_cl1 (gather_ok h k' (by omega) (.inr hdn.1) (by omega) (by rw [List.length_append, List.length_map]; omega) (by omega)) (next _ ?_)
          rw [List.flatMap_append, List.map_append, ← List.append_assoc]
          congr 1
          rw [List.flatMap_singleton, hf, if_neg (by decide)]
        · have : k = 0 := by omega
          subst this
          rw [List.flatMap_append, List.flatMap_singleton, hf, if_neg (by decide)]
          simp [filesX]
end
section
variable {n : Nat} {x : Index} {fs : List File}
/-- the rows that the walk meets -/
theorem rows_x (hn : 100010 ≤ n) (h : XF x fs) : ∃ R : List Row_, m207 n x 0 [] 6 [] = some R ∧ R.map (·.f) = fs ∧ ∀ r, r ∈ R → r.size = r.f.data.length ∧ r.hash = hv r.f.data := by
  obtain ⟨L, pp, Fr, T, hx, hs, hfl, hl⟩ := h
  obtain ⟨m, rfl⟩ : ∃ m, n = m + 1 := ⟨n - 1, by omega⟩
  have hg := gather_ok hx 5 (n := m) (d := 0) (out := []) (by omega) (.inl rfl) (by rw [hx.pp0]; simp) (by simp) (by omega)
  rw [hx.pp0] at hg
  refine ⟨_, hg, ?_, fun r hr => ?_⟩
  · rw [List.nil_append]
    have hcnt : ∀ c, T c → (x.pool c).file = true → (pp c).count 47 ≤ 6 := by
      intro c hc hf
      obtain ⟨a, ha⟩ := (hx.ppend (.inr hc)).resolve_left (hx.ppne hc)
      have hgm := (hs.row { path := a, data := (x.pool c).data, mode := (x.pool c).mode }).2 ⟨c, hc, hf, ha, rfl, rfl⟩
      rw [ha]; exact way_count (goodP_rel (hl.good _ hgm)).way
    refine sorted_str (f := fun f => f.path) ?_ hl.srt (fun f => ?_)
    · rw [List.map_map, List.pairwise_map]
      exact fx_srt hx 6 0 (.inl rfl)
    · rw [hs.row f, List.map_map, List.mem_map]
      constructor
      · rintro ⟨c, hc, rfl⟩
        obtain ⟨h1, h2, _⟩ := fx_mem hx (.inl rfl) hc
        exact ⟨c, h1, h2, hx.dl h1, rfl, rfl⟩
      · rintro ⟨c, c1, c2, c3, c4, c5⟩
        refine ⟨c, fx_all hx hcnt c1 c2, ?_⟩
        show ({ path := (pp c).dropLast, data := (x.pool c).data, mode := (x.pool c).mode } : File) = f
        rw [c3, List.dropLast_concat, c4, c5]
  · rw [List.nil_append] at hr
    obtain ⟨c, hc, rfl⟩ := List.mem_map.1 hr
    obtain ⟨h1, h2, _⟩ := fx_mem hx (.inl rfl) hc
    have := hx.fil c h1 h2
    exact ⟨this.1, this.2.1⟩
theorem list_x (hn : 100010 ≤ n) (h : XF x fs) : m122 n x = some fs := by
  obtain ⟨R, r1, r2, r3⟩ := rows_x hn h
  obtain ⟨L, pp, Fr, T, hx, hs, hfl, hl⟩ := h
  have hnum := hl.num
  have hRl : R.length ≤ 8 := by rw [← r2, List.length_map] at hnum; exact hnum
  refine Ok.eq ?_
  unfold m122
  refine Ok_cl1 r1 (Ok_ob2 ?_)
  unfold m122_w1
  refine Ok_pre2 R (by omega) (by omega) (fun pre b => b = pre.map (·.f)) rfl (fun Q lp b pre r rr hQ e hI hlt hget hw ih => ?_) (fun Q lp b hQ hI => ?_)
  · subst hI
    refine Ok_ite (fun _ => Ok_ix (by omega) hlt (fun y hy => ?_)) (fun hh => absurd hlt hh)
    obtain rfl := hget y hy
    have := pre_len e
    refine Ok_apd (by rw [List.length_map]; omega) ?_
    rw [hw]; exact ih _ (by rw [List.map_append]; rfl)
  · exact Ok_ite (fun hh => absurd hh (by omega)) (fun _ => Ok.some' (hQ _ (Ok.some' (by show b = fs; rw [hI, r2]))))
theorem XF.law (h : XF x fs) : Law fs := by obtain ⟨_, _, _, _, _, _, _, hl⟩ := h; exact hl
/-- what probe says in terms of the rows -/
theorem probe_x {p : Str} (hn : 100000 ≤ n) (h : XF x fs) (hp : goodP p = true) : Ok (m204 n x p) (fun r => (r.2 = true ∧ ∃ g, g ∈ fs ∧ clashP g.path p = true) ∨ (r = (0, false) ∧ (∀ g, g ∈ fs → g.path ≠ p ∧ clashP g.path p = false)) ∨ (r.2 = false ∧ 1 ≤ r.1 ∧ r.1 ≤ 48 ∧ { path := p, data := (x.pool r.1).data, mode := (x.pool r.1).mode } ∈ fs)) := by
  obtain ⟨L, pp, Fr, T, hx, hs, hfl, hl⟩ := h
  refine (probe_ok hn hx hp).mono (fun r hr => ?_)
  rcases hr with ⟨rfl, c, q, c1, c2, c3, c4⟩ | ⟨rfl, h1, h2⟩ | ⟨c, rfl, c1, c2⟩
  · obtain ⟨a, ha⟩ := (hx.ppend (.inr c1)).resolve_left (hx.ppne c1)
    have hgm := (hs.row { path := a, data := (x.pool c).data, mode := (x.pool c).mode }).2 ⟨c, c1, c2, ha, rfl, rfl⟩
    refine .inl ⟨rfl, _, hgm, clash_pre ?_⟩
    show a ++ [47] <+: p
    rw [ha] at c3
    refine List.prefix_of_prefix_length_le (List.prefix_append _ q) (by rw [c3]; exact List.prefix_append _ _) ?_
    have hl2 := congrArg List.length c3
    have : 1 ≤ q.length := by cases q with | nil => exact absurd rfl c4 | cons a b => simp
    simp only [List.length_append, List.length_cons, List.length_nil] at hl2 ⊢
    omega
  · refine .inr (.inl ⟨rfl, fun g hg => ?_⟩)
    obtain ⟨c, c1, c2, c3, _⟩ := (hs.row g).1 hg
    refine ⟨fun e => h1 c c1 (by rw [c3, e]; exact List.prefix_refl _), ?_⟩
    rw [← Bool.not_eq_true]
    intro hc
    unfold clashP at hc
    rw [Bool.or_eq_true, List.isPrefixOf_iff_prefix, List.isPrefixOf_iff_prefix] at hc
    rcases hc with ⟨v, hv⟩ | hc
    · exact h2 c (v ++ [47]) c1 c2 (by rw [c3, ← hv]; simp)
    · exact h1 c c1 (by rw [c3]; exact hc.trans (List.prefix_append _ _))
  · have hr := hx.rng c c1
    cases hf : (x.pool c).file with
    | true => exact .inr (.inr ⟨rfl, hr.1, hr.2, (hs.row _).2 ⟨c, c1, hf, c2, rfl, rfl⟩⟩)
    | false =>
      obtain ⟨g, hg, hpg⟩ := hs.sup c c1 hf
      refine .inl ⟨rfl, g, hg, ?_⟩
      rw [clashP_comm]; rw [c2] at hpg; exact clash_pre hpg
theorem get_x {p : Str} (hn : 100000 ≤ n) (h : XF x fs) : m183 n x p = some (match findF fs p with | some f => (f, 0) | none => (File.zero, 13)) := by
  have hl := h.law
  refine Ok.eq ?_
  unfold m183
  have hnone : (∀ g, g ∈ fs → g.path ≠ p) → findF fs p = none := fun hh => List.find?_eq_none.2 fun g hg => by simpa using hh g hg
  refine Ok_cl1 (goodPath_ok hn) (Ok_iteN (fun hg => Ok_nm (Ok.some' ?_)) (fun hg => ?_))
  · rw [hnone (fun g hgm e => by rw [← e, hl.good g hgm] at hg; cases hg)]
  · refine Ok_ob2 ((probe_x hn h hg).mono (fun r hr => ?_))
    obtain ⟨c, b⟩ := r
    rcases hr with ⟨hb, g, hgm, hcl⟩ | ⟨hrr, hno⟩ | ⟨hb, h1, h2, hm⟩
    · have hb : b = true := hb
      subst hb
      rw [Bool.or_true]
      refine Ok_cond (fun _ => Ok_nm (Ok.some' ?_)) (fun e => nomatch e)
      rw [hnone (fun g' hgm' e => ?_)]
      have : g.path ≠ p := fun e2 => by
        rw [e2] at hcl
        unfold clashP at hcl
        simp only [Bool.or_self, List.isPrefixOf_iff_prefix] at hcl
        have := hcl.length_le
        simp at this
        omega
      have := hl.clash hgm hgm' (by rw [e]; exact this)
      rw [e, hcl] at this; cases this
    · obtain ⟨rfl, rfl⟩ := Prod.mk.inj hrr
      refine Ok_cond (fun _ => Ok_nm (Ok.some' ?_)) (fun e => absurd e (by decide))
      rw [hnone (fun g hgm => (hno g hgm).1)]
    · have hb : b = false := hb
      subst hb
      have h1 : 1 ≤ c := h1
      have h2 : c ≤ 48 := h2
      rw [decide_eq_false (show ¬ c = 0 by omega)]
      refine Ok_cond (fun e => nomatch (show (false || false) = true from e)) (fun _ => Ok_ck (by omega) (by omega) (Ok_ck (by omega) (by omega) (Ok_nm (Ok.some' ?_))))
      cases hf : findF fs p with
      | none => have := List.find?_eq_none.1 hf _ hm; simp at this
      | some g =>
        have hgm := List.mem_of_find?_eq_some hf
        have hgp : g.path = p := of_decide_eq_true (List.find?_some (p := fun (y : File) => decide (y.path = p)) hf)
        rw [hl.uniq hgm hm hgp]
/-- Set of a row with a lawful path, mode and size -/
theorem set_x {f : File} (hn : 100000 ≤ n) (h : XF x fs) (hg : goodP f.path = true) (hm : 0 ≤ f.mode ∧ f.mode ≤ 3) (hsz : f.data.length ≤ 180) :
    Ok (m120 n x f) (fun r => (r = (12, x) ∧ ∃ g, g ∈ fs ∧ clashP g.path f.path = true) ∨ (r = (8, x) ∧ (∀ g, g ∈ fs → clashP g.path f.path = false) ∧ findF fs f.path = none ∧ 8 ≤ fs.length) ∨
      (r.1 = 0 ∧ (∀ g, g ∈ fs → clashP g.path f.path = false) ∧ (findF fs f.path ≠ none ∨ fs.length < 8) ∧ XF r.2 (withF fs f))) := by
  have hl := h.law
  have hfl : x.files = fs.length := by obtain ⟨_, _, _, _, _, _, hfl, _⟩ := h; exact hfl
  unfold m120
  refine Ok_cl1 (goodPath_ok hn) ?_
  rw [hg]
  refine Ok_cond (fun e => absurd e (by decide)) (fun _ => Ok_iteO (fun e => by omega) (fun _ _ => Ok_ite (fun e => by omega) (fun _ => ?_)))
  refine Ok_ob2 ((probe_x hn h hg).mono (fun r hr => ?_))
  obtain ⟨c, b⟩ := r
  rcases hr with ⟨hb, g, hgm, hcl⟩ | ⟨hrr, hno⟩ | ⟨hb, h1, h2, hmm⟩
  · have hb : b = true := hb
    subst hb
    exact Ok_cond (fun _ => Ok.some' (.inl ⟨rfl, g, hgm, hcl⟩)) (fun e => nomatch e)
  · obtain ⟨rfl, rfl⟩ := Prod.mk.inj hrr
    have hfn : findF fs f.path = none := List.find?_eq_none.2 fun g hg => by simpa using (hno g hg).1
    refine Ok_cond (fun e => nomatch e) (fun _ => Ok_ite2 (fun _ e => Ok.some' (.inr (.inl ⟨rfl, fun g hg => (hno g hg).2, hfn, by omega⟩))) (fun e => ?_))
    have h8 : fs.length < 8 := by have := e rfl; omega
    exact Ok_ob1 ((put_x hn h hg hm hsz (fun g hg => (hno g hg).2) (.inr h8)).mono (fun x' hx' => Ok.some' (.inr (.inr ⟨rfl, fun g hg => (hno g hg).2, .inr h8, hx'⟩))))
  · have hb : b = false := hb
    subst hb
    have h1 : 1 ≤ c := h1
    have hcl : ∀ g, g ∈ fs → clashP g.path f.path = false := fun g hgm => by
      by_cases e : g.path = f.path
      · rw [← Bool.not_eq_true]
        intro hc
        rw [e] at hc
        unfold clashP at hc
        simp only [Bool.or_self, List.isPrefixOf_iff_prefix] at hc
        have := hc.length_le
        simp at this
        omega
      · have := hl.clash hgm hmm (show g.path ≠ f.path from e)
        exact this
    have hfs : findF fs f.path ≠ none := fun e => by
      have := List.find?_eq_none.1 e _ hmm
      simp at this
    refine Ok_cond (fun e => nomatch e) (fun _ => Ok_ite2 (fun e => by omega) (fun _ => ?_))
    exact Ok_ob1 ((put_x hn h hg hm hsz hcl (.inl ⟨_, hmm, rfl⟩)).mono (fun x' hx' => Ok.some' (.inr (.inr ⟨rfl, hcl, .inl hfs, hx'⟩))))
theorem withF_snoc : ∀ {l : List File} {f : File}, (∀ g, g ∈ l → sLt g.path f.path = true) → withF l f = l ++ [f]
  | [], _, _ => rfl
  | g :: r, f, h => by
    have h1 := h g (by simp)
    show (if sLt f.path g.path = true then _ else if f.path = g.path then _ else g :: withF r f) = _
    rw [if_neg (by rw [sLt_asymm h1]; decide), if_neg (fun e => sLt_ne h1 e.symm), withF_snoc (fun x hx => h x (List.mem_cons_of_mem _ hx))]; rfl
/-- Load of a lawful list -/
theorem load_x {l : List File} (hn : 100000 ≤ n) (hl : Law l) : Ok (m173 n x l) (fun r => r.1 = 0 ∧ XF r.2 l) := by
  unfold m173
  have hnum := hl.num
  refine Ok_cl1 (checkFiles_ok hn) ?_
  rw [chkF_iff.2 hl]
  refine Ok_ite (fun e => absurd rfl e) (fun _ => Ok_ob1 ((reset_ok hn).mono (fun z hz => Ok_ob2 ?_)))
  unfold m173_w1
  refine Ok_pre2' l (by omega) hn (fun pre y => XF y pre) hz (fun Q lp y pre f r hQ e hI hlt hget hw ih => ?_) (fun Q lp y hQ hI => ?_)
  · refine Ok_ite (fun _ => Ok_ix (by omega) hlt (fun q hq => ?_)) (fun hh => absurd hlt hh)
    obtain rfl := hget q hq
    have hfm : f ∈ l := by rw [e]; simp
    have hlo : ∀ g, g ∈ pre → sLt g.path f.path = true ∧ clashP g.path f.path = false := by
      intro g hg
      have h1 := hl.srt
      have h2 := hl.ncl
      rw [e] at h1 h2
      exact ⟨(List.pairwise_append.1 h1).2.2 g hg f (by simp), (List.pairwise_append.1 h2).2.2 g hg f (by simp)⟩
    have := pre_len e
    refine Ok_ob1 ((put_x hn hI (hl.good f hfm) (hl.mode f hfm) (hl.size f hfm) (fun g hg => (hlo g hg).2) (.inr (by omega))).mono (fun y' hy' => ?_))
    rw [hw]
    rw [withF_snoc (fun g hg => (hlo g hg).1)] at hy'
    exact ih _ hy'
  · exact Ok_ite (fun hh => absurd hh (by omega)) (fun _ => Ok.some' (hQ _ (Ok.some' ⟨rfl, hI⟩)))
end
end Go.Proofs.Qxb6500350aGreat
