/- PLAIN LAW: PUT, GET. -/
import Derived.Test.Qxb6500350aGreatK6
import Derived.Test.Qxb6500350aGreatT194
set_option linter.unusedVariables false
set_option linter.unusedSimpArgs false
set_option maxHeartbeats 1000000
namespace Go.Proofs.Qxb6500350aGreat
open Go.Eng Go
section
variable {n : Nat} {s : Store} {d : Dev} {A : Int → Ob} {root : Int}
theorem put_loop {U : Int → Bool} {kind : Int} {x : List UInt8} {P : List Int} {z : Int → Int} (hn : 100000 ≤ n) (hd : d.Good) (hs : d.at_.length < 900000) (hU : Marks s.used U) (hx : x.length ≤ 180) (hP : P.length = nbk x.length) (hN : P.Nodup)
    (hr : ∀ b, b ∈ P → 1 ≤ b ∧ b < 145) (hz : ∀ i : Nat, i < P.length → some (z i) = P[i]?) :
    Ok (m274_w1 n kind x (nbk x.length) z n 0 s d) (fun r => ∃ u, r.2.1 = { s with used := u } ∧ Marks u (fun b => U b || P.contains b) ∧ DevTo d r.2.2 (nbk x.length) (fun b => b ∈ P) ∧
      ∀ j : Nat, j < P.length → ∀ b, P[j]? = some b → r.2.2.B b = packB kind (P.getD (j + 1) 0) ((x.drop (60 * j)).take 60)) := by
  have h3 := nbk_3 x.length
  unfold m274_w1
  refine Ok_it3 (fun (i : Int) (s' : Store) (d' : Dev) => 0 ≤ i ∧ i ≤ nbk x.length ∧ ∃ u, s' = { s with used := u } ∧ Marks u (fun b => U b || (P.take i.toNat).contains b) ∧ DevTo d d' i.toNat (fun b => b ∈ P.take i.toNat) ∧
      ∀ j : Nat, j < i.toNat → ∀ b, P[j]? = some b → d'.B b = packB kind (P.getD (j + 1) 0) ((x.drop (60 * j)).take 60)) (fun (i : Int) _ _ => (nbk x.length - i).toNat) ?_ n 0 s d
    ⟨by omega, by omega, s.used, rfl, by simpa using hU, DevTo.refl hd, fun j hj => by omega⟩ (by show ((nbk x.length : Int) - 0).toNat < n; omega)
  rintro Q lp i s' d' hQ ⟨i0, i1, u, rfl, hM, hD, hB⟩ ih
  refine Ok_ite (fun hi => ?_) (fun hi => ?_)
  · simp (disch := omega) only [wi_of]
    have hiP : i.toNat < P.length := by omega
    obtain ⟨b, hb⟩ : ∃ b, P[i.toNat]? = some b := ⟨P[i.toNat], List.getElem?_eq_getElem hiP⟩
    have hbm : b ∈ P := List.mem_of_getElem? hb
    have hbr := hr b hbm
    have hzi : z i = b := by have := hz i.toNat hiP; rw [hb, Int.toNat_of_nonneg i0] at this; exact Option.some.inj this
    have hnext : (cond (decide (i + 1 < (nbk x.length : Int))) (Option.bind (ckA (i + 1) 3) fun _ => some (z (i + 1))) (some 0)) = some (P.getD (i.toNat + 1) 0) := by
      by_cases h : i + 1 < (nbk x.length : Int)
      · rw [decide_eq_true h]
        refine Ok.eq (Ok_ck (by omega) (by omega) (Ok.some' ?_))
        have := hz (i.toNat + 1) (by omega)
        rw [show ((i.toNat + 1 : Nat) : Int) = i + 1 by omega] at this
        rw [List.getD_eq_getElem?_getD, ← this]; rfl
      · rw [decide_eq_false h]
        show some 0 = _
        rw [List.getD_eq_getElem?_getD, List.getElem?_eq_none (by omega)]; rfl
    refine Ok_cl1 hnext ?_
    have hle := nbk_le x.length hx
    have hfrom : i * 60 ≤ x.length := by
      have : (i + 1) ≤ nbk x.length := by omega
      unfold nbk at this h3 hi; split at this
      · omega
      · split at this <;> omega
    refine Ok_cl1 (pack_ok hn (by omega) hfrom (by omega)) ?_
    refine Ok_ck (by omega) (by omega) ?_
    rw [hzi]
    have hlen : ((x.drop (i * 60).toNat).take 60).length ≤ 60 := by simp; omega
    have hst := hD.steps
    refine Ok_cl2 (write_ok hn hD.good.toWf (by omega) hbr.2 (packB_len hlen) (by omega)) ?_
    refine Ok_ck (by omega) (by omega) ?_
    obtain ⟨u', hu1, hu2⟩ := mark_ok' (n := n) (s := { s with used := u }) (on := true) hM (show 0 ≤ b by omega) hbr.2
    refine Ok_cl1 hu1 ?_
    have htk : P.take (i + 1).toNat = P.take i.toNat ++ [b] := by
      rw [show (i + 1).toNat = i.toNat + 1 by omega, List.take_add_one, hb]; rfl
    have hbn : b ∉ P.take i.toNat := by
      intro hm
      have hdm : b ∈ P.drop i.toNat := List.mem_of_getElem? (i := 0) (by rw [List.getElem?_drop]; exact hb)
      have hnd : (P.take i.toNat ++ P.drop i.toNat).Nodup := by rw [List.take_append_drop]; exact hN
      exact (List.nodup_append.1 hnd).2.2 b hm b hdm rfl
    refine ih _ _ _ ⟨by omega, by omega, u', rfl, ?_, ?_, ?_⟩ (by omega)
    · rw [htk]
      intro w w0 w1
      obtain ⟨c1, c2, c3⟩ := hu2 w w0 w1
      refine ⟨c1, c2, fun j hj => ?_⟩
      rw [c3 j hj]
      unfold upd
      by_cases he : 64 * w + (j : Int) = b
      · simp [he]
      · simp [he]
    · rw [htk, show (i + 1).toNat = i.toNat + 1 by omega]
      exact (hD.mono (fun c hc => List.mem_append_left _ hc)).trans (DevTo.put hD.good (by omega) hbr.2 (packB_len hlen) (by simp))
    · intro j hj c hc
      rcases Nat.lt_or_ge j i.toNat with h4 | h4
      · have hcm : c ∈ P.take i.toNat := by
          rw [List.mem_iff_getElem?]
          exact ⟨j, by rw [List.getElem?_take, if_pos h4]; exact hc⟩
        have hcr := hr c (List.mem_of_getElem? hc)
        show blkOf (setBlk d'.blk b _) c = _
        rw [blkOf_set_ne hD.good.lb (by omega) hbr.2 (packB_len hlen) (by omega) hcr.2 (fun e => hbn (e ▸ hcm))]
        exact hB j h4 c hc
      · obtain rfl : j = i.toNat := by omega
        rw [hb] at hc
        obtain rfl := Option.some.inj hc
        show blkOf (setBlk d'.blk b _) b = _
        rw [blkOf_set_same hD.good.lb (by omega) hbr.2 (packB_len hlen)]
        rw [show (i * 60).toNat = 60 * i.toNat by omega]
  · obtain rfl : i = nbk x.length := by omega
    refine Ok.some' (hQ _ ⟨u, rfl, ?_, ?_, ?_⟩)
    · rw [Int.toNat_natCast, List.take_of_length_le (by omega)] at hM; exact hM
    · rw [Int.toNat_natCast, List.take_of_length_le (by omega)] at hD; exact hD
    · intro j hj; exact hB j (by omega)
/-- hanging an id -/
theorem hang_ok {i : Int} (h0 : 1 ≤ i) (h1 : i ≤ 48) (hh : 0 ≤ (s.tab i).hash ∧ (s.tab i).hash < 4294967296) :
    m166 n s i = some { s with tab := upI s.tab i { (s.tab i) with nxt := s.heads ((s.tab i).hash % 8) }, heads := upI s.heads ((s.tab i).hash % 8) i } := by
  refine Ok.eq ?_
  unfold m166
  refine Ok_ck (by omega) (by omega) (Ok_cl1 (bucketOf_ok hh.1 hh.2) ?_)
  exact Ok_ck (by omega) (by omega) (Ok_ck (by omega) (by omega) (Ok_nm (Ok_ck (by omega) (by omega) (Ok_nm (Ok.some' rfl)))))
theorem Hng.congr {tab tab' : Int → Entr} : ∀ {b : Int} {r : List Int}, Hng tab b r → (∀ i, i ∈ r → (tab' i).nxt = (tab i).nxt) → Hng tab' b r
  | b, [], h, _ => h
  | b, i :: r, ⟨h1, h2, h3, h4⟩, hx => ⟨h1, h2, h3, by rw [hx i (by simp)]; exact h4.congr (fun j hj => hx j (List.mem_cons_of_mem _ hj))⟩
theorem get_ok (hn : 100000 ≤ n) (hd : d.Wf) (h : Sto s d.B A root) (i : Int) : m194 n s d i = some (if 1 ≤ i ∧ i ≤ 48 ∧ (A i).lv then ((A i).kind, (A i).data, 0) else (0, [], 6)) := by
  refine Ok.eq ?_
  unfold m194
  refine Ok_cl1 (live_ok h i) ?_
  by_cases hl : 1 ≤ i ∧ i ≤ 48 ∧ (A i).lv
  · rw [decide_eq_true hl, if_pos hl]
    have he := h.ent i hl.1 hl.2.1
    obtain ⟨f1, f2, f3, f4, f5, f6, f7, f8, f9, f10⟩ := he.nf (by rcases hl.2.2 with h | h <;> omega)
    refine Ok_iteN (fun h => nomatch h) (fun _ => ?_)
    refine Ok_cl1 (bytesOf_ok hn hd (by omega) (by omega) f7 f5 f9) (Ok_ck (by omega) (by omega) (Ok.some' ?_))
    rw [f6]
  · rw [decide_eq_false hl, if_neg hl]
    exact Ok_iteN (fun _ => Ok.some' rfl) (fun h => nomatch h)
/-- Put -/
theorem put_ok {k : Int} {x : List UInt8} (hn : 100000 ≤ n) (hd : d.Good) (hs : d.at_.length < 900000) (h : Sto s d.B A root) (hk0 : 1 ≤ k) (hk1 : k ≤ 4) (hx : x.length ≤ 180) :
    Ok (m274 n s d k x) (fun r => (∃ i, 1 ≤ i ∧ i ≤ 48 ∧ (A i).lv ∧ (A i).kind = k ∧ (A i).data = x ∧ r = (i, 0, s, d)) ∨
      ((∀ j, 1 ≤ j → j ≤ 48 → (A j).st ≠ 0) ∧ (∀ j, 1 ≤ j → j ≤ 48 → (A j).lv → ¬ ((A j).kind = k ∧ (A j).data = x)) ∧ r = (0, 5, s, d)) ∨
      ((∀ j, 1 ≤ j → j ≤ 48 → (A j).lv → ¬ ((A j).kind = k ∧ (A j).data = x)) ∧ ∃ i P s' d', 1 ≤ i ∧ i ≤ 48 ∧ (A i).st = 0 ∧ (∀ j, 1 ≤ j → j < i → (A j).st ≠ 0) ∧ r = (i, 0, s', d') ∧
        Sto s' d'.B (upd A i ⟨1, k, x, P⟩) root ∧ DevTo d d' (nbk x.length) (fun b => 1 ≤ b ∧ b < 145 ∧ usedB A b = false))) := by
  unfold m274
  refine Ok_iteO (fun h => by omega) (fun _ _ => ?_)
  refine Ok_ite (fun h => by omega) (fun _ => ?_)
  refine Ok_cl1 (hashOf_ok hn (by omega)) (Ok_ob1 ((find_ok hn hd.toWf h hx).mono ?_))
  rintro f (⟨rfl, hno⟩ | ⟨f1, f2, f3, f4, f5⟩)
  rotate_left
  · exact Ok_ite (fun _ => Ok.some' (.inl ⟨f, f1, f2, f3, f4, f5, rfl⟩)) (fun h => absurd h (by omega))
  refine Ok_ite (fun h => absurd rfl h) (fun _ => ?_)
  refine Ok_ob1 ((lowestFree_ok hn h).mono ?_)
  rintro i (⟨rfl, hall⟩ | ⟨i0, i1, i2, i3⟩)
  · exact Ok_ite (fun _ => Ok.some' (.inr (.inl ⟨hall, hno, rfl⟩))) (fun h => absurd rfl h)
  refine Ok_ite (fun h => by omega) (fun _ => ?_)
  have h3 := nbk_3 x.length
  have hp := nbk_pos x.length
  refine Ok_cl1 blocksOf_ok (Ok_ob2 ((pick_ok hn h.um (by omega) (by omega)).mono ?_))
  rintro ⟨z, g⟩ ⟨P, hg, p1, p2, p3, p4, p5⟩
  dsimp only at hg p4
  have hlen : P.length = nbk x.length := by
    rcases Classical.em ((P.length : Int) < nbk x.length) with h6 | h6
    · have := room h i0 i1 i2 (p5 h6); omega
    · omega
  dsimp only
  refine Ok_nm (Ok_ite (fun h => by omega) (fun _ => ?_))
  refine Ok_ob3 ((put_loop hn hd hs h.um hx hlen p2 (fun b hb => ⟨(p3 b hb).1, (p3 b hb).2.1⟩) p4).mono ?_)
  rintro ⟨e, s', d'⟩ ⟨u, rfl, hu, hD, hB⟩
  dsimp only at hD hB ⊢
  refine Ok_ck (by omega) (by omega) (Ok_nm (Ok_nm ?_))
  have hr := hashV_rng k x
  refine Ok_cl1 (hang_ok (n := n) i0 i1 (by simp [upI]; exact hr)) (Ok.some' (.inr (.inr ⟨hno, i, P, _, d', i0, i1, i2, i3, rfl, ?_, ?_⟩)))
  rotate_left
  · exact hD.mono (fun b hb => p3 b hb)
  have hz0 : z 0 = P.headD 0 := by
    have := p4 0 (by omega)
    cases P with
    | nil => simp at hlen; omega
    | cons a P => exact Option.some.inj this
  have hout : ∀ b, 0 ≤ b → b < 145 → b ∉ P → d'.B b = d.B b := fun b b0 b1 hb => hD.out hd b0 b1 hb
  have hunused : ∀ j b, 1 ≤ j → j ≤ 48 → b ∈ (A j).bl → b ∉ P := by
    intro j b j0 j1 hb hbP
    have := (p3 b hbP).2.2
    rw [usedB_iff.2 ⟨j, j0, j1, hb⟩] at this; cases this
  have hAi : ∀ j, j ≠ i → upd A i ⟨1, k, x, P⟩ j = A j := fun j hj => by simp [upd, hj]
  have hAii : upd A i ⟨1, k, x, P⟩ i = ⟨1, k, x, P⟩ := by simp [upd]
  have hch : Chn d'.B k (P.headD 0) (chunks x) P := by
    refine Chn_of (by unfold chunks; rw [chunkN_len]; exact hlen) (fun b hb => ⟨(p3 b hb).1, (p3 b hb).2.1⟩) (fun c hc => chunkN_le _ _ _ hc) (fun j hj b c hb hc => ?_)
    unfold chunks at hj hc
    rw [chunkN_len] at hj
    rw [chunkN_get _ _ _ hj] at hc
    obtain rfl := Option.some.inj hc
    exact hB j (by omega) b hb
  refine ⟨?_, ?_, ?_, h.rd, ?_, ?_, ?_, ?_, ?_⟩
  · intro j j0 j1
    by_cases hj : j = i
    · subst hj
      rw [hAii]
      simp only [upI, if_pos rfl]
      exact ⟨rfl, (fun h => by cases h), fun _ => ⟨Int.le_refl 1, (by decide : (1 : Int) ≤ 3), hk0, hk1, hx, rfl, rfl, rfl, by rw [hz0]; exact hch, p2⟩⟩
    · rw [hAi j hj]
      simp only [upI, if_neg hj]
      have he := h.ent j j0 j1
      refine ⟨he.st, he.fr, fun hs => ?_⟩
      obtain ⟨f1, f2, f3, f4, f5, f6, f7, f8, f9, f10⟩ := he.nf hs
      exact ⟨f1, f2, f3, f4, f5, f6, f7, f8, f9.congr (fun b hb => by have := h.blocks j0 j1 hb; exact hout b (by omega) this.2.2 (hunused j b j0 j1 hb)), f10⟩
  · intro a b c a0 a1 b0 b1 ha hb
    by_cases h6 : a = i <;> by_cases h7 : b = i
    · rw [h6, h7]
    · subst h6; rw [hAii] at ha; rw [hAi b h7] at hb; exact absurd ha (hunused b c b0 b1 hb)
    · subst h7; rw [hAii] at hb; rw [hAi a h6] at ha; exact absurd hb (hunused a c a0 a1 ha)
    · rw [hAi a h6] at ha; rw [hAi b h7] at hb; exact h.dis a b c a0 a1 b0 b1 ha hb
  · have : usedB (upd A i ⟨1, k, x, P⟩) = fun b => usedB A b || P.contains b := by
      funext b
      rw [Bool.eq_iff_iff, usedB_iff, Bool.or_eq_true, usedB_iff, List.contains_iff_mem]
      constructor
      · rintro ⟨j, j0, j1, hj⟩
        by_cases h6 : j = i
        · subst h6; rw [hAii] at hj; exact .inr hj
        · rw [hAi j h6] at hj; exact .inl ⟨j, j0, j1, hj⟩
      · rintro (⟨j, j0, j1, hj⟩ | hb)
        · refine ⟨j, j0, j1, ?_⟩
          have h6 : j ≠ i := by
            rintro rfl
            rw [((h.ent j j0 j1).fr i2).2] at hj; cases hj
          rw [hAi j h6]; exact hj
        · exact ⟨i, i0, i1, by rw [hAii]; exact hb⟩
    rw [this]; exact hu
  · rw [hout 0 (by omega) (by omega) (fun h0 => by have := (p3 0 h0).1; omega), h.sup]
    refine (supB_congr (fun j j0 j1 => ?_)).symm
    by_cases h6 : j = i
    · subst h6; rw [hAii, i2]; simp
    · rw [hAi j h6]; simp
  · rcases h.rt with h6 | ⟨r0, r1, r2⟩
    · exact .inl h6
    · refine .inr ⟨r0, r1, ?_⟩
      rw [hAi root (by rintro rfl; omega)]; exact r2
  · have h6 := nfr_less (A := A) (o := ⟨1, k, x, P⟩) i0 i1 i2 (by simp)
    have h7 := nfr_le A
    have h8 := h.nf
    show IntKind.i64.wrap (s.nfree - 1) = _
    rw [wi_of (by omega) (by omega)]; omega
  · obtain ⟨L, hL⟩ := h.hg
    refine ⟨upd L (hashV k x % 8) (i :: L (hashV k x % 8)), fun b b0 b1 => ?_⟩
    obtain ⟨l1, l2, l3⟩ := hL b b0 b1
    have hni : ∀ j, j ∈ L b → j ≠ i := by
      rintro j hj rfl
      have := ((l3 j).1 hj).2.2.1
      rcases this with h | h <;> omega
    have hHng : ∀ {b : Int}, Hng s.tab (s.heads b) (L b) → (∀ j, j ∈ L b → j ≠ i) → Hng (upI (upI s.tab i { Entr.zero with state := 1, kind := k, size := (x.length : Int), first := z 0, hash := hashV k x }) i { (upI s.tab i { Entr.zero with state := 1, kind := k, size := (x.length : Int), first := z 0, hash := hashV k x } i) with nxt := s.heads (hashV k x % 8) }) (s.heads b) (L b) :=
      fun h hx => h.congr (fun j hj => by simp [upI, hx j hj])
    by_cases hb : b = hashV k x % 8
    · subst hb
      simp only [upd, upI, if_true]
      refine ⟨⟨rfl, i0, i1, ?_⟩, List.nodup_cons.2 ⟨fun hm => hni i hm rfl, l2⟩, fun j => ?_⟩
      · have := hHng l1 hni
        simpa [upI] using this
      · by_cases h6 : j = i
        · subst h6; exact ⟨fun _ => ⟨i0, i1, .inl (by simp), by simp⟩, fun _ => by simp⟩
        · simp [h6, l3 j]
    · simp only [upd, if_neg hb, upI]
      refine ⟨?_, l2, fun j => ?_⟩
      · have := hHng l1 hni
        simpa [upI, hb] using this
      · rw [l3 j]
        by_cases h6 : j = i
        · subst h6
          constructor
          · rintro ⟨_, _, h8, _⟩; rcases h8 with h8 | h8 <;> omega
          · rintro ⟨_, _, _, h9⟩; simp at h9; exact absurd h9.symm hb
        · simp [h6]
  · intro a b a0 a1 b0 b1 ha hb hk hdt
    by_cases h6 : a = i <;> by_cases h7 : b = i
    · rw [h6, h7]
    · subst h6; rw [hAii] at hk hdt; rw [hAi b h7] at hb hk hdt; exact absurd ⟨hk.symm, hdt.symm⟩ (hno b b0 b1 hb)
    · subst h7; rw [hAii] at hk hdt; rw [hAi a h6] at ha hk hdt; exact absurd ⟨hk, hdt⟩ (hno a a0 a1 ha)
    · rw [hAi a h6] at ha hk hdt; rw [hAi b h7] at hb hk hdt; exact h.tw a b a0 a1 b0 b1 ha hb hk hdt
end
end Go.Proofs.Qxb6500350aGreat
