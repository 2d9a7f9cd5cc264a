/- PLAIN LAW: THE INDEX (4): PUT, RESET. -/
import Derived.Test.Qxb6500350aGreatK51
import Derived.Test.Qxb6500350aGreatT171
set_option linter.unusedVariables false
set_option linter.unusedSimpArgs false
set_option maxHeartbeats 1000000
namespace Go.Proofs.Qxb6500350aGreat
open Go.Eng Go
theorem XI.setdata {pl pl' : Int → Nod} {free : Int} {L : Int → List Int} {pp : Int → Str} {Fr : List Int} {T : Int → Prop} {c m : Int} {dt : Str} (h : XI pl free L pp Fr T) (hc : T c) (hf : (pl c).file = true) (hm0 : 0 ≤ m) (hm1 : m ≤ 3) (hd : dt.length ≤ 180)
    (hpl : ∀ a, pl' a = if a = c then { (pl c) with data := dt, mode := m, size := (dt.length : Int), hash := hv dt } else pl a) : XI pl' free L pp Fr T := by
  have hpc : pl' c = { (pl c) with data := dt, mode := m, size := (dt.length : Int), hash := hv dt } := by rw [hpl c, if_pos rfl]
  have hpo : ∀ a, a ≠ c → pl' a = pl a := fun a ha => by rw [hpl a, if_neg ha]
  have hname : ∀ a, (pl' a).name = (pl a).name := fun a => by by_cases e : a = c; rw [e, hpc]; rw [hpo a e]
  have hfile : ∀ a, (pl' a).file = (pl a).file := fun a => by by_cases e : a = c; rw [e, hpc]; rw [hpo a e]
  have hnxt : ∀ a, (pl' a).nxt = (pl a).nxt := fun a => by by_cases e : a = c; rw [e, hpc]; rw [hpo a e]
  have hchild : ∀ a, (pl' a).child = (pl a).child := fun a => by by_cases e : a = c; rw [e, hpc]; rw [hpo a e]
  have hkey : ∀ a, keyN (pl' a) = keyN (pl a) := fun a => by unfold keyN; rw [hname, hfile]
  have hc0 : c ≠ 0 := by have := h.rng c hc; omega
  have hcF : ∀ a, a ∈ Fr → a ≠ c := fun a ha e => ((h.frm a).1 ha).2.2 (e ▸ hc)
  refine ⟨h.rng, fun d hd => by rw [hchild]; exact (h.chn d hd).congr (fun a _ => hnxt a), h.up, fun d a hd ha => by rw [hname, hfile]; exact h.dn d a hd ha, h.pp0, fun a ha => by rw [hname]; exact h.nm a ha, fun a ha => by rw [hname]; exact h.nml a ha, h.inj, fun d hd => ?_, fun a ha haf => ?_, fun a ha haf => ?_, ?_, h.frc.congr (fun a _ => hnxt a), h.frn, h.frm, fun a ha => by rw [hpo a (hcF a ha)]; exact h.frz a ha⟩
  · refine List.Pairwise.imp ?_ (h.srt d hd)
    intro a b hab
    rw [hkey, hkey]; exact hab
  · by_cases e : a = c
    · rw [e, hpc]; exact ⟨rfl, rfl, hm0, hm1, hd⟩
    · rw [hpo a e] at haf ⊢; exact h.fil a ha haf
  · have hac : a ≠ c := fun e => by rw [e, hfile c, hf] at haf; cases haf
    rw [hpo a hac] at haf ⊢; exact h.dir a ha haf
  · rw [hpo 0 (fun e => hc0 e.symm)]; exact h.root
section
variable {n : Nat} {x : Index} {fs : List File}
theorem clash_pre {p q : Str} (h : p ++ [47] <+: q) : clashP p q = true := by
  unfold clashP
  rw [Bool.or_eq_true]
  exact .inl (List.isPrefixOf_iff_prefix.2 h)
theorem put_x {f : File} (hn : 100000 ≤ n) (h : XF x fs) (hg : goodP f.path = true) (hm : 0 ≤ f.mode ∧ f.mode ≤ 3) (hsz : f.data.length ≤ 180) (hc : ∀ g, g ∈ fs → clashP g.path f.path = false) (hr : (∃ g, g ∈ fs ∧ g.path = f.path) ∨ fs.length < 8) :
    Ok (m205 n x f) (fun x' => XF x' (withF fs f)) := by
  obtain ⟨L, pp, Fr, T, hx, hs, hfl, hl⟩ := h
  have hgl := goodP_len hg
  have hup : ∀ c q, T c → (x.pool c).file = true → pp c ++ q = f.path ++ [47] → q = [] := by
    intro c q hc1 hf hq
    apply Classical.byContradiction
    intro hq0
    obtain ⟨a, ha⟩ := (hx.ppend (.inr hc1)).resolve_left (hx.ppne hc1)
    have hgm := (hs.row { path := a, data := (x.pool c).data, mode := (x.pool c).mode }).2 ⟨c, hc1, hf, ha, rfl, rfl⟩
    have h1 := hc _ hgm
    have : a ++ [47] <+: f.path := by
      rw [ha] at hq
      refine List.prefix_of_prefix_length_le (List.prefix_append _ q) (by rw [hq]; exact List.prefix_append _ _) ?_
      have hl2 := congrArg List.length hq
      have : 1 ≤ q.length := by cases q with | nil => exact absurd rfl hq0 | cons a b => simp
      simp only [List.length_append, List.length_cons, List.length_nil] at hl2 ⊢
      omega
    have h1 : clashP a f.path = false := h1
    rw [clash_pre this] at h1; cases h1
  have hdn : ∀ c, T c → pp c = f.path ++ [47] → (x.pool c).file = true := by
    intro c hc1 hp
    rw [← Bool.not_eq_false]
    intro hf
    obtain ⟨g, hgm, hpg⟩ := hs.sup c hc1 hf
    rw [hp] at hpg
    have h1 := hc g hgm
    rw [clashP_comm, clash_pre hpg] at h1; cases h1
  unfold m205
  refine Ok_ob2 ((plant_ok hn hx hs hl hg hup hdn hr hfl).mono (fun r hr' => ?_))
  obtain ⟨c, z⟩ := r
  obtain ⟨L', pp', Fr', T', hP, hc1, hc2, hc3, hc4⟩ := hr'
  have hc1 : T' c := hc1
  have hc2 : pp' c = f.path ++ [47] := hc2
  have hc3 : (z.pool c).file = true := hc3
  have hc4 : T c ∧ z.files = x.files ∨ ¬ T c ∧ z.files = x.files + 1 := hc4
  have hcr := hP.xi.rng c hc1
  refine Ok_ck (by omega) (by show c < 49; omega) (Ok_nmz (fun z2 h2 => Ok_ck (by omega) (by show c < 49; omega) (Ok_nmz (fun z3 h3 => Ok_ck (by omega) (by show c < 49; omega) (Ok_nmz (fun z4 h4 => Ok_cl1 (hashX_ok hn (by omega)) (Ok_ck (by omega) (by show c < 49; omega) (Ok_nmz (fun z5 h5 => Ok.some' ?_)))))))))
  have hfree : z5.free = z.free := by subst h5 h4 h3 h2; rfl
  have hfiles : z5.files = z.files := by subst h5 h4 h3 h2; rfl
  have hpl : ∀ a, z5.pool a = if a = c then { (z.pool c) with data := f.data, mode := f.mode, size := (f.data.length : Int), hash := hv f.data } else z.pool a := fun a => by
    have e2 : z2.pool = upI z.pool c { (z.pool c) with data := f.data } := by rw [h2]
    have e3 : z3.pool = upI z2.pool c { (z2.pool c) with mode := f.mode } := by rw [h3]
    have e4 : z4.pool = upI z3.pool c { (z3.pool c) with size := (f.data.length : Int) } := by rw [h4]
    have e5 : z5.pool = upI z4.pool c { (z4.pool c) with hash := hv f.data } := by rw [h5]
    rw [e5]
    unfold upI
    by_cases e : a = c
    · rw [if_pos e, if_pos e, e4]
      unfold upI
      rw [if_pos rfl, e3]
      unfold upI
      rw [if_pos rfl, e2]
      unfold upI
      rw [if_pos rfl]
    · rw [if_neg e, if_neg e, e4]
      unfold upI
      rw [if_neg e, e3]
      unfold upI
      rw [if_neg e, e2]
      unfold upI
      rw [if_neg e]
  generalize hpl' : z5.pool = pl' at hpl
  suffices hfin : XF { pool := pl', free := z.free, files := z.files } (withF fs f) by
    have : z5 = { pool := pl', free := z.free, files := z.files } := by rw [← hpl', ← hfree, ← hfiles]
    rw [this]; exact hfin
  have hxi := hP.xi.setdata hc1 hc3 hm.1 hm.2 hsz hpl
  have hpc : pl' c = { (z.pool c) with data := f.data, mode := f.mode, size := (f.data.length : Int), hash := hv f.data } := by rw [hpl c, if_pos rfl]
  have hpo : ∀ a, a ≠ c → pl' a = z.pool a := fun a ha => by rw [hpl a, if_neg ha]
  have hmem := fun y => withF_mem (h := y) (f := f) hl.srt
  have hTc : T c ↔ ∃ g, g ∈ fs ∧ g.path = f.path := by
    constructor
    · intro ht
      have ho := hP.old c ht
      refine ⟨{ path := f.path, data := (x.pool c).data, mode := (x.pool c).mode }, (hs.row _).2 ⟨c, ht, hdn c ht (by rw [← ho.2.1, hc2]), by rw [← ho.2.1, hc2], rfl, rfl⟩, rfl⟩
    · rintro ⟨g, hgm, hgp⟩
      obtain ⟨a, a1, a2, a3, _⟩ := (hs.row g).1 hgm
      have ho := hP.old a a1
      have : a = c := hP.xi.inj a c ho.1 hc1 (by rw [ho.2.1, a3, hgp, hc2])
      rw [← this]; exact a1
  refine ⟨L', pp', Fr', T', hxi, ⟨fun y => ?_, fun a ha haf => ?_⟩, ?_, withF_law hl hg hm hsz hc hr⟩
  · rw [hmem y]
    constructor
    · rintro (rfl | ⟨hy, hyp⟩)
      · exact ⟨c, hc1, by show (pl' c).file = true; rw [hpc]; exact hc3, hc2, by show (pl' c).data = _; rw [hpc], by show (pl' c).mode = _; rw [hpc]⟩
      · obtain ⟨a, a1, a2, a3, a4, a5⟩ := (hs.row y).1 hy
        have ho := hP.old a a1
        have hac : a ≠ c := fun e => by
          have := ho.2.1
          rw [e, hc2] at this
          rw [e] at a3
          rw [a3] at this
          exact hyp (List.append_cancel_right this).symm
        exact ⟨a, ho.1, by show (pl' a).file = true; rw [hpo a hac, ho.2.2.file]; exact a2, by rw [ho.2.1]; exact a3, by show (pl' a).data = _; rw [hpo a hac, ho.2.2.data]; exact a4, by show (pl' a).mode = _; rw [hpo a hac, ho.2.2.mode]; exact a5⟩
    · rintro ⟨a, a1, a2, a3, a4, a5⟩
      have a2 : (pl' a).file = true := a2
      have a4 : (pl' a).data = y.data := a4
      have a5 : (pl' a).mode = y.mode := a5
      by_cases hac : a = c
      · subst hac
        rw [hpc] at a4 a5
        rw [hc2] at a3
        have h1 := List.append_cancel_right a3
        refine .inl ?_
        cases y with
        | mk p dt mo =>
          have h1 : f.path = p := h1
          have a4 : f.data = dt := a4
          have a5 : f.mode = mo := a5
          subst h1 a4 a5
          rfl
      · rw [hpo a hac] at a2 a4 a5
        by_cases hT : T a
        · have ho := hP.old a hT
          rw [ho.2.2.file] at a2
          rw [ho.2.2.data] at a4
          rw [ho.2.2.mode] at a5
          rw [ho.2.1] at a3
          refine .inr ⟨(hs.row y).2 ⟨a, hT, a2, a3, a4, a5⟩, fun e => hac (hP.xi.inj a c a1 hc1 (by rw [ho.2.1, a3, e, hc2]))⟩
        · have := ((hP.new a a1 hT).2).1 a2
          exact absurd (hP.xi.inj a c a1 hc1 (by rw [this, hc2])) hac
  · have haf : (pl' a).file = false := haf
    have hac : a ≠ c := fun e => by rw [e, hpc] at haf; have haf : (z.pool c).file = false := haf; rw [hc3] at haf; cases haf
    rw [hpo a hac] at haf
    by_cases hT : T a
    · have ho := hP.old a hT
      rw [ho.2.2.file] at haf
      obtain ⟨g, hgm, hpg⟩ := hs.sup a hT haf
      rw [ho.2.1]
      by_cases e : g.path = f.path
      · exact ⟨f, (hmem f).2 (.inl rfl), by rw [← e]; exact hpg⟩
      · exact ⟨g, (hmem g).2 (.inr ⟨hgm, e⟩), hpg⟩
    · have hnw := hP.new a ha hT
      have hne : pp' a ≠ f.path ++ [47] := fun e => by rw [hnw.2.2 e] at haf; cases haf
      refine ⟨f, (hmem f).2 (.inl rfl), ?_⟩
      have := hnw.1.length_le
      refine List.prefix_of_prefix_length_le hnw.1 (List.prefix_append _ _) ?_
      rcases Nat.lt_or_eq_of_le this with h1 | h1
      · simp only [List.length_append, List.length_cons, List.length_nil] at h1; omega
      · exact absurd (hnw.1.eq_of_length h1) hne
  · show z.files = _
    rw [withF_len hl.srt]
    rcases hc4 with ⟨h1, h2⟩ | ⟨h1, h2⟩
    · rw [if_pos (hTc.1 h1), h2, hfl]; omega
    · rw [if_neg (fun e => h1 (hTc.2 e)), h2, hfl]; omega
theorem chx_seq {pl : Int → Nod} : ∀ (k : Nat) (a : Int), 1 ≤ a → a + k = 49 → (∀ i, a ≤ i → i ≤ 48 → (pl i).nxt = if i < 48 then i + 1 else 0) → Chx pl (if 0 < k then a else 0) ((List.range k).map fun (j : Nat) => a + j)
  | 0, a, _, _, _ => rfl
  | k + 1, a, h0, h1, h => by
    rw [if_pos (by omega), List.range_succ_eq_map, List.map_cons, List.map_map]
    refine ⟨by simp, by simp; omega, by simp; omega, ?_⟩
    have hn := h a (Int.le_refl _) (by omega)
    have ih := chx_seq k (a + 1) (by omega) (by omega) (fun i hi1 hi2 => h i (by omega) hi2)
    have : ((fun (j : Nat) => a + (j : Int)) ∘ Nat.succ) = fun (j : Nat) => a + 1 + (j : Int) := by funext j; simp; omega
    rw [this]
    show Chx pl (pl (a + ((0 : Nat) : Int))).nxt _
    rw [show a + ((0 : Nat) : Int) = a by omega, hn]
    have : (if a < 48 then a + 1 else 0) = if 0 < k then a + 1 else 0 := by
      by_cases e : 0 < k
      · rw [if_pos e, if_pos (by omega)]
      · rw [if_neg e, if_neg (by omega)]
    rw [this]; exact ih
theorem reset_ok (hn : 100000 ≤ n) : Ok (m171 n x) (fun x' => XF x' []) := by
  unfold m171
  refine Ok_ob2 ?_
  unfold m171_w1
  refine Ok_it2 (fun (c : Int) (z : Index) => 0 ≤ c ∧ c ≤ 49 ∧ ∀ i, 0 ≤ i → i < c → z.pool i = Nod.zero) (fun (c : Int) _ => (49 - c).toNat) ?_ n 0 x ⟨by omega, by omega, fun i h0 h1 => by omega⟩ (by show ((49 : Int) - 0).toNat < n; omega)
  rintro Q lp c z hQ ⟨i0, i1, i2⟩ ih
  refine Ok_ite (fun hc => Ok_ck (by omega) (by omega) (Ok_nm ?_)) (fun hc => ?_)
  · rw [wi_e (by omega) (by omega)]
    refine ih _ _ ⟨by omega, by omega, fun i h0 h1 => ?_⟩ (by omega)
    show upI z.pool c Nod.zero i = _
    unfold upI
    split
    · rfl
    · exact i2 i h0 (by omega)
  · refine Ok.some' (hQ _ (Ok_ob2 ?_))
    clear ih hQ
    unfold m171_w2
    refine Ok_it2 (fun (k : Int) (y : Index) => 1 ≤ k ∧ k ≤ 48 ∧ ∀ i, 0 ≤ i → i ≤ 48 → y.pool i = { Nod.zero with nxt := if 1 ≤ i ∧ i < k then i + 1 else 0 }) (fun (k : Int) _ => (48 - k).toNat) ?_ n 1 z ⟨by omega, by omega, fun i h0 h1 => by rw [i2 i h0 (by omega), if_neg (by omega)]; rfl⟩ (by show ((48 : Int) - 1).toNat < n; omega)
    rintro Q lp k y hQ ⟨j0, j1, j2⟩ ih
    refine Ok_ite (fun hk => Ok_ck (by omega) (by omega) (Ok_nm ?_)) (fun hk => ?_)
    · rw [wi_e (by omega) (by omega)]
      refine ih _ _ ⟨by omega, by omega, fun i h0 h1 => ?_⟩ (by omega)
      show upI y.pool k { (y.pool k) with nxt := k + 1 } i = _
      unfold upI
      by_cases e : i = k
      · subst e; rw [if_pos rfl, if_pos (by omega), j2 i h0 h1]
      · rw [if_neg e, j2 i h0 h1]
        by_cases e2 : 1 ≤ i ∧ i < k
        · rw [if_pos e2, if_pos (by omega)]
        · rw [if_neg e2, if_neg (by omega)]
    · obtain rfl : k = 48 := by omega
      refine Ok.some' (hQ _ (Ok_nm (Ok_nm (Ok.some' ?_))))
      have hfr : ((List.range 48).map fun (j : Nat) => (1 : Int) + j) = ids := by unfold ids; exact List.map_congr_left fun j _ => by omega
      have hch := chx_seq (pl := y.pool) 48 1 (by omega) (by omega) (fun i h0 h1 => by rw [j2 i (by omega) h1]; show (if 1 ≤ i ∧ i < 48 then i + 1 else 0) = _; by_cases e : i < 48; rw [if_pos ⟨h0, e⟩, if_pos e]; rw [if_neg (fun h => e h.2), if_neg e])
      rw [hfr] at hch
      have hz := j2 0 (by omega) (by omega)
      rw [if_neg (by omega)] at hz
      refine ⟨fun _ => [], fun _ => [], ids, fun _ => False, ⟨(fun c (h : False) => h.elim), (fun d hd => ?_), (fun c (h : False) => h.elim), (fun d c _ hc => by cases hc), rfl, (fun c (h : False) => h.elim), (fun c (h : False) => h.elim), (fun c c' (h : False) => h.elim), (fun d _ => .nil), (fun c (h : False) => h.elim), (fun c (h : False) => h.elim), ?_, hch, ids_nodup, fun c => ?_, fun c hc => ?_⟩, ⟨fun f => ⟨(fun h => by cases h), (fun ⟨c, h, _⟩ => h.elim)⟩, (fun c (h : False) => h.elim)⟩, rfl, ⟨by simp, by simp, by simp, by simp, .nil, .nil⟩⟩
      · rcases hd with rfl | hd
        · show Chx _ (y.pool 0).child []
          rw [hz]; rfl
        · exact hd.elim
      · show y.pool 0 = _
        rw [hz]; rfl
      · rw [mem_ids]; exact ⟨fun h => ⟨h.1, h.2, fun hh => hh⟩, fun h => ⟨h.1, h.2.1⟩⟩
      · have := mem_ids.1 hc
        show y.pool c = { Nod.zero with nxt := (y.pool c).nxt }
        rw [j2 c (by omega) this.2]
end
end Go.Proofs.Qxb6500350aGreat
