/- PLAIN LAW: FORGET, MEMBERS OF MANY, SWEEP. -/
import Derived.Test.Qxb6500350aGreatK43
import Derived.Test.Qxb6500350aGreatT238
import Derived.Test.Qxb6500350aGreatT235
import Derived.Test.Qxb6500350aGreatT236
set_option linter.unusedVariables false
set_option linter.unusedSimpArgs false
set_option maxHeartbeats 2000000
namespace Go.Proofs.Qxb6500350aGreat
open Go.Eng Go
section
variable {n : Nat} {t : Trees} {s : Store} {d : Dev} {g : Graph} {A : Int → Ob} {root : Int} {ord : List Int}
open Classical in
theorem forget_ok {keep : Int} {P : Int → Prop} (hn : 100000 ≤ n) (h : Ordr g ord) (hb : Bits keep P) :
    Ok (m238 n g keep) (fun g' => ∃ cm od, g' = { g with com := cm, order := od, n := (ord.filter fun x => decide (P x)).length } ∧ Ordr g' (ord.filter fun x => decide (P x)) ∧ ∀ i, cm i = if i ∈ ord ∧ ¬ P i then Com.zero else g.com i) := by
  have hgn := h.n
  have hle := h.le
  have hnd : ord.Nodup := by
    refine List.Pairwise.imp ?_ h.srt
    intro a b hab e; subst e; omega
  unfold m238
  refine Ok_ob3 ?_
  unfold m238_w1
  refine Ok_it3 (fun (c k : Int) (z : Graph) => 0 ≤ k ∧ k ≤ ord.length ∧ c = ((ord.take k.toNat).filter fun x => decide (P x)).length ∧ ∃ cm od, z = { g with com := cm, order := od } ∧ (∀ j : Int, 0 ≤ j → j < c → ((ord.take k.toNat).filter fun x => decide (P x))[j.toNat]? = some (od j)) ∧ (∀ j, k ≤ j → od j = g.order j) ∧ ∀ i, cm i = if i ∈ ord.take k.toNat ∧ ¬ P i then Com.zero else g.com i)
    (fun _ (k : Int) _ => ((ord.length : Int) - k).toNat) ?_ n 0 0 g ⟨by omega, by omega, by simp, g.com, g.order, rfl, fun j j0 j1 => by omega, fun _ _ => rfl, fun i => by simp⟩ (by show ((ord.length : Int) - 0).toNat < n; omega)
  rintro Q lp c k z hQ ⟨i0, i1, i2, cm, od, rfl, i3, i4, i5⟩ ih
  have hfl : ((ord.take k.toNat).filter fun x => decide (P x)).length ≤ k.toNat := by
    have := List.length_filter_le (fun x => decide (P x)) (ord.take k.toNat)
    rw [List.length_take] at this; omega
  refine Ok_ite (fun hc => ?_) (fun hc => ?_)
  · have hc : k < g.n := hc
    have hod : od k = g.order k := i4 k (by omega)
    have hm := h.mem i0 (by omega)
    have hr := h.rng _ hm
    have hget := h.oget k i0 (by omega)
    have htk : ord.take (k + 1).toNat = ord.take k.toNat ++ [g.order k] := by rw [show (k + 1).toNat = k.toNat + 1 by omega, List.take_add_one, hget]; rfl
    have hnt : g.order k ∉ ord.take k.toNat := by
      intro hmm
      obtain ⟨j, j0, j1, j2⟩ := mem_idx hmm
      rw [List.length_take] at j1
      rw [List.getElem?_take, if_pos (by omega), h.oget j j0 (by omega)] at j2
      have h1 := h.lt j0 (show j < k by omega) (by omega)
      rw [Option.some.inj j2] at h1; omega
    show Ok (Option.bind (ckA k 48) fun _ => ob1 (m222 n (od k)) _) Q
    rw [hod]
    obtain ⟨b, hb1, rfl⟩ := bit_ok (n := n) (i := g.order k) (by omega) (by omega)
    have ht := hb.test (i := g.order k) (by omega) (by omega)
    refine Ok_ck (by omega) (by omega) (Ok_cl1 hb1 (Ok_ite (fun e => ?_) (fun e => ?_)))
    · have hP := Classical.not_not.1 (fun hh => e (ht.2 hh))
      refine Ok_ck (by omega) (by omega) (Ok_nm ?_)
      rw [wi_e (x := c + 1) (by omega) (by omega), wi_e (x := k + 1) (by omega) (by omega)]
      have hf : (ord.take (k + 1).toNat).filter (fun x => decide (P x)) = (ord.take k.toNat).filter (fun x => decide (P x)) ++ [g.order k] := by
        rw [htk, List.filter_append]; simp [hP]
      refine ih _ _ _ ⟨by omega, by omega, by rw [hf]; simp; omega, cm, upI od c (g.order k), ?_, fun j j0 j1 => ?_, fun j j0 => ?_, fun i => ?_⟩ (by omega)
      · show { g with com := cm, order := upI od c (od k) } = _; rw [hod]
      · rw [hf]
        unfold upI
        by_cases e2 : j = c
        · subst e2; rw [if_pos rfl, List.getElem?_append_right (by omega), show j.toNat - ((ord.take k.toNat).filter fun x => decide (P x)).length = 0 by omega]; rfl
        · rw [if_neg e2, List.getElem?_append_left (by omega)]; exact i3 j j0 (by omega)
      · unfold upI; rw [if_neg (by omega)]; exact i4 j (by omega)
      · rw [i5 i, htk]
        by_cases e2 : i = g.order k
        · subst e2
          rw [if_neg (fun hh => hnt hh.1), if_neg (fun hh => hh.2 hP)]
        · have : i ∈ ord.take k.toNat ++ [g.order k] ↔ i ∈ ord.take k.toNat := by simp [e2]
          simp only [this]
    · have hP := ht.1 (Classical.not_not.1 e)
      have hod' : ({ g with com := cm, order := od } : Graph).order k = g.order k := hod
      show Ok (Option.bind (ckA (od k) 49) fun _ => nm ({ g with com := upI cm (od k) Com.zero, order := od } : Graph) fun z4 => lp c (wi (k + 1)) z4) Q
      rw [hod]
      refine Ok_ck (by omega) (by omega) (Ok_nm ?_)
      rw [wi_e (by omega) (by omega)]
      have hf : (ord.take (k + 1).toNat).filter (fun x => decide (P x)) = (ord.take k.toNat).filter (fun x => decide (P x)) := by
        rw [htk, List.filter_append]; simp [hP]
      refine ih _ _ _ ⟨by omega, by omega, by rw [hf]; exact i2, upI cm (g.order k) Com.zero, od, rfl, fun j j0 j1 => by rw [hf]; exact i3 j j0 j1, fun j j0 => i4 j (by omega), fun i => ?_⟩ (by omega)
      rw [htk]
      unfold upI
      by_cases e2 : i = g.order k
      · subst e2; rw [if_pos rfl, if_pos ⟨by simp, hP⟩]
      · have : i ∈ ord.take k.toNat ++ [g.order k] ↔ i ∈ ord.take k.toNat := by simp [e2]
        rw [if_neg e2]; simp only [this]; exact i5 i
  · have hc : ¬ k < g.n := hc
    obtain rfl : k = ord.length := by omega
    rw [Int.toNat_natCast, List.take_length] at i2 i3 i5 hfl
    refine Ok.some' (hQ _ (Ok_ob2 ?_))
    clear ih hQ
    unfold m238_w2
    refine Ok_it2 (fun (k : Int) (z : Graph) => c ≤ k ∧ k ≤ ord.length ∧ ∃ od, z = { g with com := cm, order := od } ∧ ∀ j : Int, 0 ≤ j → j < c → (ord.filter fun x => decide (P x))[j.toNat]? = some (od j)) (fun (k : Int) _ => ((ord.length : Int) - k).toNat) ?_ n c _ ⟨by omega, by omega, od, rfl, i3⟩ (by show ((ord.length : Int) - c).toNat < n; omega)
    rintro Q lp k z hQ ⟨j0, j1, od2, rfl, j2⟩ ih
    refine Ok_ite (fun hk => ?_) (fun hk => ?_)
    · have hk : k < g.n := hk
      refine Ok_ck (by omega) (by omega) (Ok_nm ?_)
      rw [wi_e (by omega) (by omega)]
      refine ih _ _ ⟨by omega, by omega, upI od2 k 0, rfl, fun j h0 h1 => ?_⟩ (by omega)
      unfold upI; rw [if_neg (by omega)]; exact j2 j h0 h1
    · refine Ok.some' (hQ _ (Ok_nm (Ok.some' ⟨cm, od2, ?_, ⟨?_, ?_, fun j h0 h1 => ?_, fun i hi => h.rng i (List.mem_filter.1 hi).1, ?_⟩, i5⟩)))
      · show { g with com := cm, order := od2, n := c } = _; rw [i2]
      · show c = _; exact i2
      · have := List.length_filter_le (fun x => decide (P x)) ord; omega
      · exact j2 j h0 (by omega)
      · show (ord.filter fun x => decide (P x)).Pairwise fun a b => (cm a).seq < (cm b).seq
        refine List.Pairwise.imp_of_mem ?_ (h.srt.filter fun x => decide (P x))
        intro a b ha hb hab
        have h1 := of_decide_eq_true (List.mem_filter.1 ha).2
        have h2 := of_decide_eq_true (List.mem_filter.1 hb).2
        rw [i5 a, i5 b, if_neg (fun hh => hh.2 h1), if_neg (fun hh => hh.2 h2)]; exact hab
theorem gmembers_ok {mark tree : Int} {U : Int → Prop} (hn : 100010 ≤ n) (h : LT t s d A root) (hb : Bits mark U) (ht : isTr A tree) : Ok (m235 n g t s d mark tree) (fun r => Bits r (fun x => U x ∨ Mem A 6 tree x)) := by
  unfold m235
  refine Ok_ob2 ((members_ok (by omega) h ht).mono (fun r hr => Ok_ob2 ?_))
  obtain ⟨l, e⟩ := r
  obtain ⟨_, r1, r2⟩ := hr
  simp only at r1 r2
  unfold m235_w1
  refine Ok_it2 (fun (c k : Int) => 0 ≤ k ∧ k ≤ l.length ∧ Bits c (fun x => U x ∨ x ∈ l.take k.toNat)) (fun (_ k : Int) => ((l.length : Int) - k).toNat) ?_ n mark 0 ⟨by omega, by omega, hb.congr (fun x _ _ => by simp)⟩ (by show ((l.length : Int) - 0).toNat < n; omega)
  rintro Q lp c k hQ ⟨i0, i1, i2⟩ ih
  refine Ok_ite (fun hk => Ok_ix (by omega) hk (fun x hx => ?_)) (fun hk => ?_)
  · have hk : k < (l.length : Int) := hk
    have hxr := Mem.rng h.ts (h.ts.ht tree ht) ((r2 x).1 (List.mem_of_getElem? hx))
    obtain ⟨b, hb1, rfl⟩ := bit_ok (n := n) (i := x) (by omega) (by omega)
    refine Ok_cl1 hb1 ?_
    rw [wi_e (by omega) (by omega)]
    refine ih _ _ ⟨by omega, by omega, (i2.or (Bits.one (by omega) (by omega))).congr (fun y _ _ => ?_)⟩ (by omega)
    rw [show (k + 1).toNat = k.toNat + 1 by omega, List.take_add_one, hx, List.mem_append, or_assoc]
    simp
  · have hk : ¬ k < (l.length : Int) := hk
    obtain rfl : k = l.length := by omega
    rw [Int.toNat_natCast, List.take_length] at i2
    exact Ok.some' (hQ _ (Ok.some' (i2.congr fun y _ _ => by rw [r2 y])))
theorem nlv_drop {i : Int} {o : Ob} (h0 : 1 ≤ i) (h1 : i ≤ 48) (hl : (A i).lv) (ho : ¬ o.lv) : nlv A = nlv (upd A i o) + 1 := by
  unfold nlv
  refine cnt_one (i := i) (by simpa using hl) ?_ (fun j hj => ?_) ids_nodup (mem_ids.2 ⟨h0, h1⟩)
  · simp only [upd, if_pos]; exact decide_eq_false ho
  · simp [upd, hj]
/-- A2 is A less some objects that are not in M -/
def Swp (M : Int → Prop) (A A2 : Int → Ob) : Prop := ∀ i, 1 ≤ i → i ≤ 48 → A2 i = A i ∨ (¬ M i ∧ (A i).lv ∧ A2 i = drp (A i))
/-- a live tree in M names what is in M -/
def ClosedM (M : Int → Prop) (A : Int → Ob) : Prop := ∀ j r, isTr A j → M j → r ∈ Rw A j → M r.id
theorem Swp.tr {M : Int → Prop} {A2 : Int → Ob} (h : Swp M A A2) {j : Int} (hj : isTr A2 j) : isTr A j ∧ A2 j = A j := by
  rcases h j hj.1 hj.2.1 with e | ⟨_, e1, e2⟩
  · exact ⟨by unfold isTr at hj ⊢; rw [e] at hj; exact hj, e⟩
  · have := hj.2.2.1; rw [e2] at this; exact absurd this (drp_lv e1)
theorem stuck {M : Int → Prop} (ts : TreS A) (hM : ClosedM M A) (hs : ∀ i, 1 ≤ i → i ≤ 48 → (A i).lv → ¬ M i → ¬ NoRow A i) : ∀ i, 1 ≤ i → i ≤ 48 → (A i).lv → M i := by
  have up : ∀ i, 1 ≤ i → i ≤ 48 → (A i).lv → ¬ M i → ∃ j r, isTr A j ∧ ¬ M j ∧ r ∈ Rw A j ∧ r.id = i := by
    intro i h0 h1 hl hm
    apply Classical.byContradiction
    intro hno
    refine hs i h0 h1 hl hm (fun j r hj hr e => hno ⟨j, r, hj, fun hmj => hm (e ▸ hM j r hj hmj hr), hr, e⟩)
  have chain : ∀ q : Nat, ∀ i, isTr A i → ¬ M i → ¬ Ht A q i → False := by
    have : ∀ (m q : Nat), q + m = 6 → ∀ i, isTr A i → ¬ M i → ¬ Ht A q i → False := by
      intro m
      induction m with
      | zero => intro q hq i hi _ hh; exact hh (by rw [show q = 6 by omega]; exact ts.ht i hi)
      | succ m ih =>
        intro q hq i hi hm hh
        obtain ⟨j, r, hj, hmj, hr, e⟩ := up i hi.1 hi.2.1 hi.2.2.1 hm
        refine ih (q + 1) (by omega) j hj hmj (fun hhj => hh ?_)
        have hd : r.dir = true := by
          rw [← Bool.not_eq_false]
          intro hd
          have := (ts.fil j r hj hr hd).2.2.2
          rw [e] at this
          have := hi.2.2.2; omega
        rw [← e]; exact hhj.2 r hr hd
    intro q i hi hm hh
    by_cases hq : q ≤ 6
    · exact this (6 - q) q (by omega) i hi hm hh
    · exact hh ((ts.ht i hi).mono (by omega))
  intro i h0 h1 hl
  apply Classical.byContradiction
  intro hm
  obtain ⟨j, r, hj, hmj, hr, e⟩ := up i h0 h1 hl hm
  exact chain 0 j hj hmj (fun hh => hh)
theorem sweep_ok {mark : Int} {M : Int → Prop} (hn : 100010 ≤ n) (h : LT t s d A root) (hd : d.at_.length < 700000) (hb : Bits mark M) (hM : ClosedM M A) :
    Ok (m236 n g t s d mark) (fun r => ∃ A2, LT r.1 r.2 d A2 root ∧ Swp M A A2 ∧ ∀ i, 1 ≤ i → i ≤ 48 → (A2 i).lv → M i) := by
  have hn48 : nlv A ≤ 48 := by
    have := List.length_filter_le (fun i => decide (A i).lv) ids
    rw [ids_len] at this; exact this
  have closed : ∀ A2, Swp M A A2 → ClosedM M A2 := by
    intro A2 hs j r hj hm hr
    obtain ⟨hj1, e⟩ := hs.tr hj
    exact hM j r hj1 hm (by rw [← Rw_congr e]; exact hr)
  unfold m236
  refine Ok_flow ?_
  unfold m236_w1
  refine Ok_it3 (fun (c : Int) (z1 : Trees) (z2 : Store) => 0 ≤ c ∧ c ≤ 48 ∧ ∃ A2, LT z1 z2 d A2 root ∧ Swp M A A2 ∧ (nlv A2 : Int) + c ≤ 48) (fun (c : Int) _ _ => (48 - c).toNat) ?_ n 0 t s ⟨by omega, by omega, A, h, fun i _ _ => .inl rfl, by omega⟩ (by show ((48 : Int) - 0).toNat < n; omega)
  rintro Q lp c z1 z2 hQ ⟨i0, i1, A2, i2, i3, i4⟩ ih
  refine Ok_ite (fun hc => ?_) (fun hc => ?_)
  · refine Ok_ob4 ?_
    unfold m236_w2
    refine Ok_it4 (fun (e k : Int) (y1 : Trees) (y2 : Store) => 1 ≤ k ∧ k ≤ 49 ∧ 0 ≤ e ∧ e < k ∧ ∃ A3, LT y1 y2 d A3 root ∧ Swp M A A3 ∧ (nlv A3 : Int) + e ≤ nlv A2 ∧ (e = 0 → A3 = A2 ∧ ∀ i, 1 ≤ i → i < k → (A2 i).lv → ¬ M i → ¬ NoRow A2 i)) (fun (_ k : Int) _ _ => (49 - k).toNat) ?_ n 0 1 z1 z2
      ⟨by omega, by omega, by omega, by omega, A2, i2, i3, by omega, fun _ => ⟨rfl, fun i h0 h1 => by omega⟩⟩ (by show ((49 : Int) - 1).toNat < n; omega)
    rintro Q2 lp2 e k y1 y2 hQ2 ⟨j0, j1, j2, j3, A3, j4, j5, j6, j7⟩ ih2
    refine Ok_ite (fun hk => ?_) (fun hk => ?_)
    · obtain ⟨b, hb1, rfl⟩ := bit_ok (n := n) (i := k) (by omega) (by omega)
      have ht := hb.test (i := k) (by omega) (by omega)
      refine Ok_cl1 hb1 (Ok_ite (fun e0 => ?_) (fun e0 => ?_))
      · have hnm := ht.1 e0
        refine Ok_ob3 ((tdrop_ok (by omega) j4 hd k).mono (fun r hr => ?_))
        rcases hr with ⟨rfl, hno⟩ | ⟨rfl, hl, hno⟩ | ⟨r1, hl, hno, l3⟩
        · refine Ok_ite (fun e => absurd (show (6 : Int) = 0 from e) (by decide)) (fun _ => ?_)
          rw [wi_e (by omega) (by omega)]
          refine ih2 _ _ _ _ ⟨by omega, by omega, j2, by omega, A3, j4, j5, j6, fun e1 => ?_⟩ (by omega)
          obtain ⟨k1, k2⟩ := j7 e1
          refine ⟨k1, fun i h0 h1 hl hm => ?_⟩
          by_cases ei : i = k
          · subst ei; rw [k1] at hno; exact absurd ⟨h0, hk, hl⟩ hno
          · exact k2 i h0 (by omega) hl hm
        · refine Ok_ite (fun e => absurd (show (7 : Int) = 0 from e) (by decide)) (fun _ => ?_)
          rw [wi_e (by omega) (by omega)]
          refine ih2 _ _ _ _ ⟨by omega, by omega, j2, by omega, A3, j4, j5, j6, fun e1 => ?_⟩ (by omega)
          obtain ⟨k1, k2⟩ := j7 e1
          refine ⟨k1, fun i h0 h1 hl' hm => ?_⟩
          by_cases ei : i = k
          · subst ei; rw [k1] at hno; exact hno
          · exact k2 i h0 (by omega) hl' hm
        · obtain ⟨c8, y3, y4⟩ := r
          simp only at r1 l3
          subst r1
          refine Ok_ite (fun _ => ?_) (fun e => absurd rfl e)
          rw [wi_e (by omega) (by omega), wi_e (by omega) (by omega)]
          have hdl := drp_lv hl.2.2
          have hnl := nlv_drop hl.1 hl.2.1 hl.2.2 hdl
          refine ih2 _ _ _ _ ⟨by omega, by omega, by omega, by omega, upd A3 k (drp (A3 k)), l3, fun i h0 h1 => ?_, by omega, fun e1 => by omega⟩ (by omega)
          by_cases ei : i = k
          · subst ei
            rcases j5 i h0 h1 with e1 | ⟨_, e1, e2⟩
            · refine .inr ⟨hnm, ?_, ?_⟩
              · rw [← e1]; exact hl.2.2
              · simp [upd, e1]
            · have := hl.2.2; rw [e2] at this; exact absurd this (drp_lv e1)
          · rw [show upd A3 k (drp (A3 k)) i = A3 i by simp [upd, ei]]; exact j5 i h0 h1
      · have hm0 := Classical.not_not.1 (fun hh => e0 (ht.2 hh))
        rw [wi_e (by omega) (by omega)]
        refine ih2 _ _ _ _ ⟨by omega, by omega, j2, by omega, A3, j4, j5, j6, fun e1 => ?_⟩ (by omega)
        obtain ⟨k1, k2⟩ := j7 e1
        refine ⟨k1, fun i h0 h1 hl hm => ?_⟩
        by_cases ei : i = k
        · subst ei; exact absurd hm0 hm
        · exact k2 i h0 (by omega) hl hm
    · obtain rfl : k = 49 := by omega
      refine Ok.some' (hQ2 _ ?_)
      refine Ok_ite (fun e0 => ?_) (fun e0 => ?_)
      · have e0 : e = 0 := e0
        obtain ⟨k1, k2⟩ := j7 e0
        subst k1
        exact Ok_bs (Ok.some' (hQ _ (Ok.some' ⟨A3, j4, j5, stuck j4.ts (closed A3 j5) (fun i h0 h1 hl hm => k2 i h0 (by omega) hl hm)⟩)))
      · have e0 : ¬ e = 0 := e0
        rw [wi_e (by omega) (by omega)]
        exact ih _ _ _ ⟨by omega, by omega, A3, j4, j5, by omega⟩ (by omega)
  · obtain rfl : c = 48 := by omega
    refine Ok.some' (hQ _ (Ok.some' ⟨A2, i2, i3, fun i h0 h1 hl => ?_⟩))
    exfalso
    have : nlv A2 = 0 := by omega
    unfold nlv at this
    rw [List.length_eq_zero_iff, List.filter_eq_nil_iff] at this
    exact this i (mem_ids.2 ⟨h0, h1⟩) (decide_eq_true hl)
end
end Go.Proofs.Qxb6500350aGreat
