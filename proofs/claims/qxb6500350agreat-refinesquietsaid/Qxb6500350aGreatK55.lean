/- PLAIN LAW: THE INDEX (7): PRUNE, DEL. -/
import Derived.Test.Qxb6500350aGreatK54
set_option linter.unusedVariables false
set_option linter.unusedSimpArgs false
set_option maxHeartbeats 2000000
namespace Go.Proofs.Qxb6500350aGreat
open Go.Eng Go
theorem withoutF_mem {fs : List File} {p : Str} {f : File} : f ∈ withoutF fs p ↔ f ∈ fs ∧ f.path ≠ p := by
  unfold withoutF; rw [List.mem_filter, decide_eq_true_eq]
theorem withoutF_len {p : Str} {f0 : File} : ∀ {l : List File}, (l.Pairwise fun a b => sLt a.path b.path = true) → f0 ∈ l → f0.path = p → (withoutF l p).length + 1 = l.length
  | [], _, h, _ => by cases h
  | g :: r, hs, h, hp => by
    obtain ⟨h1, h2⟩ := List.pairwise_cons.1 hs
    unfold withoutF
    rw [List.filter_cons]
    by_cases e : g.path = p
    · rw [if_neg (by simp [e])]
      have : r.filter (fun x => decide (x.path ≠ p)) = r := List.filter_eq_self.2 fun x hx => by
        have := sLt_ne (h1 x hx)
        rw [e] at this
        exact decide_eq_true (fun e2 => this e2.symm)
      rw [this]; rfl
    · rw [if_pos (by simp [e])]
      have hm : f0 ∈ r := (List.mem_cons.1 h).resolve_left (fun e2 => e (by rw [← e2]; exact hp))
      have := withoutF_len h2 hm hp
      unfold withoutF at this
      rw [List.length_cons, List.length_cons]; omega
section
variable {pl : Int → Nod} {free : Int} {L : Int → List Int} {pp : Int → Str} {Fr : List Int} {T : Int → Prop}
/-- a node on the way -/
theorem way_node (h : XI pl free L pp Fr T) {w : Int → Int} {P : Str} : ∀ (m : Nat), WayN L pp T P w m → ∀ a, T a → pp a <+: pp (w m) → ∃ j, 1 ≤ j ∧ j ≤ (m : Int) ∧ a = w j
  | 0, hw, a, ha, hp => by
    rw [show w ((0 : Nat) : Int) = 0 from hw.z, h.pp0] at hp
    exact absurd (List.prefix_nil.1 hp) (h.ppne ha)
  | m + 1, hw, a, ha, hp => by
    have hst := hw.st m (by omega) (by omega)
    have hwm := hw.tw (j := m) (by omega) (by omega)
    have h1 := h.dn (w m) (w (m + 1)) hwm hst.1
    by_cases e : pp a = pp (w ((m + 1 : Nat) : Int))
    · refine ⟨((m + 1 : Nat) : Int), by omega, by omega, h.inj a _ ha ?_ e⟩
      have := hst.2
      rw [show ((m + 1 : Nat) : Int) = (m : Int) + 1 by omega]; exact this
    · rw [show ((m + 1 : Nat) : Int) = (m : Int) + 1 by omega] at hp e
      rw [h1.2.1] at hp e
      have h2 := prefix_snoc (h.nm _ h1.1).2 ((h.ppend (.inr ha)).resolve_left (h.ppne ha)) hp e
      obtain ⟨j, j0, j1, j2⟩ := way_node h m ⟨hw.z, fun j a b => hw.st j a (by omega), fun j a b => hw.pre j a (by omega)⟩ a ha h2
      exact ⟨j, j0, by omega, j2⟩
theorem way_mono (h : XI pl free L pp Fr T) {w : Int → Int} {P : Str} {k : Int} (hw : WayN L pp T P w k) : ∀ (m : Nat) (j : Int), 0 ≤ j → j + m ≤ k → (pp (w j)).length + m ≤ (pp (w (j + m))).length
  | 0, j, _, _ => by simp
  | m + 1, j, h0, h1 => by
    have ih := way_mono h hw m j h0 (by omega)
    have hst := hw.st (j + m) (by omega) (by omega)
    have h2 := h.dn (w (j + m)) (w (j + m + 1)) (hw.tw (by omega) (by omega)) hst.1
    have h3 := congrArg List.length h2.2.1
    rw [show j + ((m + 1 : Nat) : Int) = j + m + 1 by omega]
    simp only [List.length_append, List.length_cons, List.length_nil] at h3
    omega
end
section
variable {n : Nat} {x : Index} {fs : List File}
theorem prune_x {p : Str} {f0 : File} (hn : 100000 ≤ n) (h : XF x fs) (hp : goodP p = true) (hf0 : f0 ∈ fs) (hfp : f0.path = p) : Ok (m206 n x p) (fun z => XF z (withoutF fs p)) := by
  obtain ⟨L, pp, Fr, T, hx, hs, hfl, hl⟩ := h
  have hgl := goodP_len hp
  have hway := (goodP_rel hp).way
  have hnum := hl.num
  obtain ⟨c0, c01, c02, c03, _, _⟩ := (hs.row f0).1 hf0
  rw [hfp] at c03
  unfold m206
  refine Ok_ob3 ?_
  unfold m206_w1
  refine Ok_it3 (fun (k at_ : Int) (w : Int → Int) => 0 ≤ k ∧ k ≤ 6 ∧ ∃ pre r m, p ++ [47] = pre ++ r ∧ at_ = pre.length ∧ Way m r ∧ k + m ≤ 6 ∧ WayN L pp T (p ++ [47]) w k ∧ pp (w k) = pre) (fun (_ at_ : Int) _ => ((p.length : Int) + 1 - at_).toNat) ?_ n 0 0 _
    ⟨by omega, by omega, [], p ++ [47], 6, rfl, rfl, hway, by omega, ⟨rfl, fun j h0 h1 => by omega, fun j h0 h1 => by show pp 0 <+: _; rw [hx.pp0]; exact List.nil_prefix⟩, hx.pp0⟩ (by show ((p.length : Int) + 1 - 0).toNat < n; omega)
  rintro Q lp k at_ w hQ ⟨k0, k6, pre, r, m, e, rfl, hr, hkm, hw, hpk⟩ ih
  have hlen := congrArg List.length e
  simp only [List.length_append, List.length_cons, List.length_nil] at hlen
  by_cases hr0 : r = []
  · subst hr0
    refine Ok_ite2 (fun hc => by simp at hlen; omega) (fun _ => Ok.some' (hQ _ (Ok_nm ?_)))
    clear ih hQ
    rw [List.append_nil] at e
    have hk1 : 1 ≤ k := by
      apply Classical.byContradiction
      intro hk
      have : k = 0 := by omega
      subst this
      rw [hw.z, hx.pp0] at hpk
      rw [← hpk] at e; simp at e
    have hpK : pp (w k) = p ++ [47] := by rw [hpk, e]
    have hTk : T (w k) := (hw.tw (by omega) (Int.le_refl _)).resolve_left (fun e2 => by rw [e2, hx.pp0] at hpK; simp at hpK)
    have hwk : w k = c0 := hx.inj _ _ hTk c01 (by rw [hpK, c03])
    -- the walk back
    refine Ok_flow ?_
    unfold m206_w2
    show Ok (it2 _ n k ({ x with files := wi (x.files - 1) } : Index)) _
    rw [wi_e (by omega) (by omega)]
    have fin : ∀ (z : Index) (k' : Int) L' Fr' T', 0 ≤ k' → k' < k → XI z.pool z.free L' pp Fr' T' → z.files = x.files - 1 → (∀ a, T' a → T a ∧ Same6 (x.pool a) (z.pool a)) → ¬ T' (w k) → (∀ a, T a → ¬ T' a → ∃ j, k' < j ∧ j ≤ k ∧ a = w j) → (∀ a, T' a → (z.pool a).file = false → ∃ f, f ∈ withoutF fs p ∧ pp a <+: f.path) → XF z (withoutF fs p) := by
      intro z k' L' Fr' T' kk0 kk1 hxi hfz hT hno hmiss hsup
      refine ⟨L', pp, Fr', T', hxi, ⟨fun f => ?_, hsup⟩, ?_, withoutF_law hl⟩
      · rw [withoutF_mem, hs.row f]
        constructor
        · rintro ⟨⟨a, a1, a2, a3, a4, a5⟩, hne⟩
          have hTa : T' a := by
            apply Classical.byContradiction
            intro hn'
            obtain ⟨j, j0, j1, rfl⟩ := hmiss a a1 hn'
            by_cases ej : j = k
            · subst ej
              rw [hpK] at a3
              exact hne (List.append_cancel_right a3).symm
            · have hst := hw.st j (by omega) (by omega)
              have := (hx.dn (w j) (w (j + 1)) (.inr a1) hst.1).2.2
              rw [a2] at this; cases this
          have h6 := (hT a hTa).2
          exact ⟨a, hTa, by rw [h6.file]; exact a2, a3, by rw [h6.data]; exact a4, by rw [h6.mode]; exact a5⟩
        · rintro ⟨a, a1, a2, a3, a4, a5⟩
          have h6 := (hT a a1).2
          have hTa := (hT a a1).1
          refine ⟨⟨a, hTa, by rw [← h6.file]; exact a2, a3, by rw [← h6.data]; exact a4, by rw [← h6.mode]; exact a5⟩, fun e2 => hno ?_⟩
          have : a = w k := hx.inj a (w k) hTa hTk (by rw [a3, hpK, e2])
          rw [← this]; exact a1
      · rw [hfz, hfl]
        have := withoutF_len hl.srt hf0 hfp
        omega
    refine Ok_it2 (fun (k' : Int) (z : Index) => 0 ≤ k' ∧ k' ≤ k ∧ ∃ L' Fr' T', XI z.pool z.free L' pp Fr' T' ∧ z.files = x.files - 1 ∧ (∀ a, T' a → T a ∧ Same6 (x.pool a) (z.pool a)) ∧ WayN L' pp T' (p ++ [47]) w k' ∧ ((k' = k ∧ ∀ a, T a → T' a) ∨
        (k' < k ∧ ¬ T' (w k) ∧ (∀ a, T a → ¬ T' a → ∃ j, k' < j ∧ j ≤ k ∧ a = w j) ∧ ∀ a, T' a → (z.pool a).file = false → (∃ f, f ∈ withoutF fs p ∧ pp a <+: f.path) ∨ ∃ j, 1 ≤ j ∧ j ≤ k' ∧ a = w j))) (fun (k' : Int) _ => k'.toNat) ?_ n k _
      ⟨by omega, by omega, L, Fr, T, hx, rfl, fun a ha => ⟨ha, .refl _⟩, hw, .inl ⟨rfl, fun a ha => ha⟩⟩ (by show k.toNat < n; omega)
    rintro Q lp k' z hQ ⟨j0, j1, L', Fr', T', hxi, hfz, hT, hW, hor⟩ ih
    by_cases hk0 : k' = 0
    · refine Ok_ite (fun e2 => by omega) (fun _ => Ok.some' (hQ _ (Ok.some' ?_)))
      rcases hor with ⟨e2, _⟩ | ⟨e2, h1, h2, h3⟩
      · omega
      · refine fin z k' L' Fr' T' j0 e2 hxi hfz hT h1 h2 (fun a ha hf => (h3 a ha hf).resolve_right (fun ⟨j, a0, a1, _⟩ => by omega))
    · have hst := hW.st (k' - 1) (by omega) (by omega)
      rw [show k' - 1 + 1 = k' by omega] at hst
      have hTw := hst.2
      have hwr := hxi.rng _ hTw
      have hd' := hW.tw (j := k' - 1) (by omega) (by omega)
      have hd48 := hxi.d48 hd'
      have hch := hxi.chn (w k') (.inr hTw)
      refine Ok_ite (fun _ => Ok_ck (by omega) (by omega) (Ok_ck (by show 0 ≤ w k'; omega) (by show w k' < 49; omega) (Ok_ite (fun hcz => ?_) (fun hcz => ?_)))) (fun e2 => by omega)
      · -- a child is left: all is done
        refine Ok_bs (Ok.some' (hQ _ (Ok.some' ?_)))
        have hne : L' (w k') ≠ [] := fun e2 => by rw [e2] at hch; exact hcz hch
        obtain ⟨b, hb⟩ : ∃ b, b ∈ L' (w k') := by cases hL : L' (w k') with | nil => exact absurd hL hne | cons b l => exact ⟨b, by simp⟩
        have hdn := hxi.dn (w k') b (.inr hTw) hb
        rcases hor with ⟨rfl, hall⟩ | ⟨hlt, h1, h2, h3⟩
        · exfalso
          have hfk : (x.pool (w k')).file = true := by rw [hwk]; exact c02
          have := hdn.2.2
          rw [(hT _ hTw).2.file, hfk] at this; cases this
        · have hplen := congrArg List.length hdn.2.1
          simp only [List.length_append, List.length_cons, List.length_nil] at hplen
          have hpb : pp (w k') <+: pp b := by rw [hdn.2.1]; exact List.prefix_append _ _
          have hsupk : ∃ f, f ∈ withoutF fs p ∧ pp (w k') <+: f.path := by
            cases hfb : (z.pool b).file with
            | true =>
              have hTb := hT b hdn.1
              obtain ⟨a, ha⟩ := (hx.ppend (.inr hTb.1)).resolve_left (hx.ppne hTb.1)
              have hgm := (hs.row { path := a, data := (x.pool b).data, mode := (x.pool b).mode }).2 ⟨b, hTb.1, by rw [← hTb.2.file]; exact hfb, ha, rfl, rfl⟩
              refine ⟨_, withoutF_mem.2 ⟨hgm, fun e2 => h1 ?_⟩, ?_⟩
              · have e2 : a = p := e2
                have : b = w k := hx.inj b (w k) hTb.1 hTk (by rw [ha, e2, hpK])
                rw [← this]; exact hdn.1
              · show pp (w k') <+: a
                rw [ha] at hpb hplen
                simp only [List.length_append, List.length_cons, List.length_nil] at hplen
                exact List.prefix_of_prefix_length_le hpb (List.prefix_append _ _) (by omega)
            | false =>
              rcases h3 b hdn.1 hfb with ⟨f, f1, f2⟩ | ⟨j, a0, a1, rfl⟩
              · exact ⟨f, f1, hpb.trans f2⟩
              · exfalso
                have := way_mono hxi hW (k' - j).toNat j (by omega) (by omega)
                rw [show j + ((k' - j).toNat : Int) = k' by omega] at this
                omega
          refine fin z k' L' Fr' T' j0 hlt hxi hfz hT h1 h2 (fun a ha hf => ?_)
          rcases h3 a ha hf with h4 | ⟨j, a0, a1, rfl⟩
          · exact h4
          · obtain ⟨f, f1, f2⟩ := hsupk
            refine ⟨f, f1, List.IsPrefix.trans ?_ f2⟩
            have := way_mono hxi hW (k' - j).toNat j (by omega) (by omega)
            rw [show j + ((k' - j).toNat : Int) = k' by omega] at this
            exact List.prefix_of_prefix_length_le (hW.pre j (by omega) a1) (hW.pre k' (by omega) (Int.le_refl _)) (by omega)
      · -- it goes too
        have hcz : (z.pool (w k')).child = 0 := Classical.not_not.1 hcz
        have hLk : L' (w k') = [] := by
          cases hL : L' (w k') with
          | nil => rfl
          | cons b l => rw [hL] at hch; obtain ⟨e1, e2, _⟩ := hch; omega
        rw [wi_e (x := k' - 1) (by omega) (by omega)]
        refine Ok_ck (by omega) (by omega) (Ok_ck (by omega) (by omega) (Ok_ob1 ((unlink_ok hn hxi hd' hst.1 hLk).mono (fun z' hz' => ?_))))
        obtain ⟨f1, L2, f2, f3, f4⟩ := hz'
        have hdif : ∀ j, 0 ≤ j → j < k' → w j ≠ w k' := fun j a0 a1 e2 => by
          have := way_mono hxi hW (k' - j).toNat j a0 (by omega)
          rw [show j + ((k' - j).toNat : Int) = k' by omega, e2] at this
          omega
        refine ih _ _ ⟨by omega, by omega, L2, _, _, f2, f1.trans hfz, fun a ha => ⟨(hT a ha.1).1, ?_⟩, ⟨hW.z, fun j a0 a1 => ?_, fun j a0 a1 => hW.pre j a0 (by omega)⟩, .inr ⟨by omega, ?_, fun a ha hna => ?_, fun a ha hf => ?_⟩⟩ (by omega)
        · have q := (hT a ha.1).2
          have q2 := f3 a ha.2
          exact ⟨q2.name.trans q.name, q2.file.trans q.file, q2.data.trans q.data, q2.mode.trans q.mode, q2.size.trans q.size, q2.hash.trans q.hash⟩
        · have hs1 := hW.st j a0 (by omega)
          have hd1 := hdif (j + 1) (by omega) (by omega)
          exact ⟨(f4 (w j) (hW.tw a0 (by omega)) (hdif j a0 (by omega)) _).2 ⟨hs1.1, hd1⟩, hs1.2, hd1⟩
        · intro hh
          rcases hor with ⟨e2, _⟩ | ⟨_, h1, _⟩
          · exact hh.2 (by rw [e2])
          · exact h1 hh.1
        · by_cases hTa : T' a
          · have : a = w k' := Classical.not_not.1 (fun hh => hna ⟨hTa, hh⟩)
            exact ⟨k', by omega, j1, this⟩
          · rcases hor with ⟨_, hall⟩ | ⟨_, _, h2, _⟩
            · exact absurd (hall a ha) hTa
            · obtain ⟨j, a0, a1, a2⟩ := h2 a ha hTa
              exact ⟨j, by omega, a1, a2⟩
        · have hTa := ha.1
          have hfz0 : (z.pool a).file = false := by rw [← (f3 a ha.2).file]; exact hf
          rcases hor with ⟨e2, hall⟩ | ⟨_, _, _, h3⟩
          · subst e2
            have hT0 := hT a hTa
            obtain ⟨f, g1, g2⟩ := hs.sup a hT0.1 (by rw [← hT0.2.file]; exact hfz0)
            by_cases ep : f.path = p
            · right
              rw [ep] at g2
              have hpa : pp a <+: pp (w k') := by rw [hpK]; exact g2.trans (List.prefix_append _ _)
              obtain ⟨j, a0, a1, a2⟩ := way_node hx k'.toNat (by rw [show ((k'.toNat : Nat) : Int) = k' by omega]; exact hw) a hT0.1 (by rw [show ((k'.toNat : Nat) : Int) = k' by omega]; exact hpa)
              refine ⟨j, a0, ?_, a2⟩
              have : j ≠ k' := fun e3 => ha.2 (by rw [a2, e3])
              omega
            · exact .inl ⟨f, withoutF_mem.2 ⟨g1, ep⟩, g2⟩
          · rcases h3 a hTa hfz0 with h4 | ⟨j, a0, a1, a2⟩
            · exact .inl h4
            · right
              refine ⟨j, a0, ?_, a2⟩
              have : j ≠ k' := fun e3 => ha.2 (by rw [a2, e3])
              omega
  · obtain ⟨m', y, r', rfl, rfl, hy0, hy, hr'⟩ := hr.cases hr0
    simp only [List.length_append, List.length_cons] at hlen
    have hyl : 1 ≤ y.length := by cases y with | nil => exact absurd rfl hy0 | cons a b => simp
    have hpe := part_eq e
    have hd := hw.tw (j := k) (by omega) (Int.le_refl _)
    have hd48 := hx.d48 hd
    have hpre' : p ++ [47] = (pre ++ (y ++ [47])) ++ r' := by rw [e]; simp
    have hplen : (pre ++ (y ++ [47])).length = pre.length + y.length + 1 := by simp; omega
    refine Ok_ite2 (fun _ _ => Ok_cl1 (partEnd_ok hn (by omega) e hy) (Ok_ck (by omega) (by omega) (Ok_sSl (by omega) (by omega) hpe.2 ?_))) (fun hc => absurd (show k < 6 by omega) (hc (by omega)))
    rw [hpe.1]
    refine Ok_ob1 ((childOf_ok (nm := y) hn hd48.1 hd48.2 (hx.chn _ hd) (hx.len hd)).mono (fun c hc => ?_))
    rw [wi_e (x := k + 1) (by omega) (by omega), wi_e (x := (pre.length : Int) + y.length + 1) (by omega) (by omega)]
    rcases hc with ⟨rfl, hno⟩ | ⟨hcm, hcn⟩
    · exact (anc_node hx hd hpk hy hno c0 c01 (by rw [c03, hpre']; exact List.prefix_append _ _)).elim
    · have hTc := hx.dn _ c hd hcm
      have hup1 : upI w (k + 1) c (k + 1) = c := by unfold upI; rw [if_pos rfl]
      have hupo : ∀ j, j ≤ k → upI w (k + 1) c j = w j := fun j hj => by unfold upI; rw [if_neg (by omega)]
      refine Ok_ck (by omega) (by omega) (Ok_nm (ih _ _ _ ⟨by omega, by omega, pre ++ (y ++ [47]), r', m', hpre', by omega, hr', by omega, ⟨?_, fun j a0 a1 => ?_, fun j a0 a1 => ?_⟩, ?_⟩ (by omega)))
      · rw [hupo 0 k0]; exact hw.z
      · by_cases ej : j = k
        · subst ej; rw [hup1, hupo j (by omega)]; exact ⟨hcm, hTc.1⟩
        · rw [hupo j (by omega), hupo (j + 1) (by omega)]; exact hw.st j a0 (by omega)
      · by_cases ej : j = k + 1
        · subst ej; rw [hup1, hTc.2.1, hpk, hcn, hpre']; exact List.prefix_append _ _
        · rw [hupo j (by omega)]; exact hw.pre j a0 (by omega)
      · rw [hup1, hTc.2.1, hpk, hcn]
/-- Del -/
theorem del_x {p : Str} (hn : 100000 ≤ n) (h : XF x fs) : Ok (m121 n x p) (fun r => (r = (13, x) ∧ findF fs p = none) ∨ (r.1 = 0 ∧ findF fs p ≠ none ∧ XF r.2 (withoutF fs p))) := by
  have hl := h.law
  unfold m121
  have hnone : (∀ g, g ∈ fs → g.path ≠ p) → findF fs p = none := fun hh => List.find?_eq_none.2 fun g hg => by simpa using hh g hg
  refine Ok_cl1 (goodPath_ok hn) (Ok_iteN (fun hg => Ok.some' (.inl ⟨rfl, ?_⟩)) (fun hg => ?_))
  · exact hnone (fun g hgm e => by rw [← e, hl.good g hgm] at hg; cases hg)
  · refine Ok_ob2 ((probe_x hn h hg).mono (fun r hr => ?_))
    obtain ⟨c, b⟩ := r
    rcases hr with ⟨hb, g, hgm, hcl⟩ | ⟨hrr, hno⟩ | ⟨hb, h1, h2, hm⟩
    · have hb : b = true := hb
      subst hb
      rw [Bool.or_true]
      refine Ok_cond (fun _ => Ok.some' (.inl ⟨rfl, ?_⟩)) (fun e => nomatch e)
      refine hnone (fun g' hgm' e => ?_)
      have : g.path ≠ p := fun e2 => by
        rw [e2] at hcl
        unfold clashP at hcl
        simp only [Bool.or_self, List.isPrefixOf_iff_prefix] at hcl
        have := hcl.length_le
        simp at this
        omega
      have := hl.clash hgm hgm' (by rw [e]; exact this)
      rw [e, hcl] at this; cases this
    · obtain ⟨rfl, rfl⟩ := Prod.mk.inj hrr
      refine Ok_cond (fun _ => Ok.some' (.inl ⟨rfl, hnone (fun g hgm => (hno g hgm).1)⟩)) (fun e => absurd e (by decide))
    · have hb : b = false := hb
      subst hb
      have h1 : 1 ≤ c := h1
      have h2 : c ≤ 48 := h2
      rw [decide_eq_false (show ¬ c = 0 by omega)]
      refine Ok_cond (fun e => nomatch (show (false || false) = true from e)) (fun _ => Ok_ob1 ((prune_x hn h hg hm rfl).mono (fun z hz => Ok.some' (.inr ⟨rfl, fun e => ?_, hz⟩))))
      have := List.find?_eq_none.1 e _ hm
      simp at this
end
end Go.Proofs.Qxb6500350aGreat
