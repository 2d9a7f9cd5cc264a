/- PLAIN LAW: HANG, UNHANG, RELEASE. -/
import Derived.Test.Qxb6500350aGreatK7
import Derived.Test.Qxb6500350aGreatT304
import Derived.Test.Qxb6500350aGreatT303
import Derived.Test.Qxb6500350aGreatT285
set_option linter.unusedVariables false
set_option linter.unusedSimpArgs false
set_option maxHeartbeats 1000000
namespace Go.Proofs.Qxb6500350aGreat
open Go.Eng Go
/-- the inner state: just the ids of H hang -/
structure Sti (s : Store) (D : Int → List UInt8) (A : Int → Ob) (H : Int → Prop) : Prop where
  ent : ∀ i : Int, 1 ≤ i → i ≤ 48 → EntOk D (s.tab i) (A i)
  dis : ∀ i j b, 1 ≤ i → i ≤ 48 → 1 ≤ j → j ≤ 48 → b ∈ (A i).bl → b ∈ (A j).bl → i = j
  um : Marks s.used (usedB A)
  nf : s.nfree = nfr A
  hg : ∃ L : Int → List Int, ∀ b, 0 ≤ b → b < 8 → Hng s.tab (s.heads b) (L b) ∧ (L b).Nodup ∧ ∀ i, i ∈ L b ↔ (1 ≤ i ∧ i ≤ 48 ∧ H i ∧ hashV (A i).kind (A i).data % 8 = b)
  hs : ∀ i, 1 ≤ i → i ≤ 48 → H i → (A i).st ≠ 0
theorem Sto.sti {s : Store} {D : Int → List UInt8} {A : Int → Ob} {root : Int} (h : Sto s D A root) : Sti s D A (fun i => (A i).lv) :=
  ⟨h.ent, h.dis, h.um, h.nf, h.hg, fun i _ _ hi => by rcases hi with h | h <;> omega⟩
theorem Sti.sto {s : Store} {D : Int → List UInt8} {A : Int → Ob} {root : Int} {H : Int → Prop} (h : Sti s D A H) (hH : ∀ i, 1 ≤ i → i ≤ 48 → (H i ↔ (A i).lv)) (rd : s.root = root) (sup : D 0 = supB A root)
    (rt : root = 0 ∨ (1 ≤ root ∧ root ≤ 48 ∧ ((A root).st = 2 ∨ (A root).st = 3)))
    (tw : ∀ i j, 1 ≤ i → i ≤ 48 → 1 ≤ j → j ≤ 48 → (A i).lv → (A j).lv → (A i).kind = (A j).kind → (A i).data = (A j).data → i = j) : Sto s D A root := by
  refine ⟨h.ent, h.dis, h.um, rd, sup, rt, h.nf, ?_, tw⟩
  obtain ⟨L, hL⟩ := h.hg
  refine ⟨L, fun b b0 b1 => ?_⟩
  obtain ⟨l1, l2, l3⟩ := hL b b0 b1
  refine ⟨l1, l2, fun i => ?_⟩
  rw [l3 i]
  constructor
  · rintro ⟨h1, h2, h3, h4⟩; exact ⟨h1, h2, (hH i h1 h2).1 h3, h4⟩
  · rintro ⟨h1, h2, h3, h4⟩; exact ⟨h1, h2, (hH i h1 h2).2 h3, h4⟩
theorem Hng.cons {tab : Int → Entr} {b c i : Int} {r : List Int} (h : b = i) (h0 : 1 ≤ i) (h1 : i ≤ 48) (h2 : (tab i).nxt = c) (h3 : Hng tab c r) : Hng tab b (i :: r) := ⟨h, h0, h1, by rw [h2]; exact h3⟩
theorem Hng.cut {tab : Int → Entr} {x i : Int} {r : List Int} : ∀ {pre : List Int} {b : Int}, Hng tab b (pre ++ x :: i :: r) → (∀ j, j ∈ pre → j ≠ x ∧ j ≠ i) → x ≠ i → x ∉ r → i ∉ r →
    Hng (upI (upI tab x { (tab x) with nxt := (tab i).nxt }) i { (upI tab x { (tab x) with nxt := (tab i).nxt } i) with nxt := 0 }) b (pre ++ x :: r)
  | [], b, ⟨h1, h2, h3, ⟨h4, h5, h6, h7⟩⟩, _, hxi, hx, hi => by
    subst h1
    refine ⟨rfl, h2, h3, ?_⟩
    have h7' : Hng tab (tab i).nxt r := h7
    have hbx : (upI (upI tab b { (tab b) with nxt := (tab i).nxt }) i { (upI tab b { (tab b) with nxt := (tab i).nxt } i) with nxt := 0 } b).nxt = (tab i).nxt := by simp [upI, hxi]
    show Hng _ (upI (upI tab b { (tab b) with nxt := (tab i).nxt }) i { (upI tab b { (tab b) with nxt := (tab i).nxt } i) with nxt := 0 } b).nxt r
    rw [hbx]
    refine h7'.congr (fun j hj => ?_)
    have e1 : j ≠ b := fun e => hx (e ▸ hj)
    have e2 : j ≠ i := fun e => hi (e ▸ hj)
    simp [upI, e1, e2]
  | a :: pre, b, ⟨h1, h2, h3, h4⟩, hp, hxi, hx, hi => by
    subst h1
    have ha := hp b (by simp)
    refine ⟨rfl, h2, h3, ?_⟩
    have := h4.cut (fun j hj => hp j (List.mem_cons_of_mem _ hj)) hxi hx hi
    simpa [upI, ha.1, ha.2] using this
section
variable {n : Nat} {s : Store} {d : Dev} {A : Int → Ob} {root : Int} {H : Int → Prop}
theorem Sti.hash {D : Int → List UInt8} (h : Sti s D A H) {i : Int} (h0 : 1 ≤ i) (h1 : i ≤ 48) (hi : (A i).st ≠ 0) : (s.tab i).hash = hashV (A i).kind (A i).data :=
  ((h.ent i h0 h1).nf hi).2.2.2.2.2.2.2.1
/-- the entries but for the links -/
theorem EntOk.nxt {D : Int → List UInt8} {e : Entr} {o : Ob} (h : EntOk D e o) (hs : o.st ≠ 0) (v : Int) : EntOk D { e with nxt := v } o :=
  ⟨h.st, fun h0 => absurd h0 hs, h.nf⟩
theorem unhang_ok {D : Int → List UInt8} {i : Int} (hn : 100000 ≤ n) (h : Sti s D A H) (h0 : 1 ≤ i) (h1 : i ≤ 48) (hH : H i) : Ok (m319 n s i) (fun s' => Sti s' D A (fun j => H j ∧ j ≠ i) ∧ s'.root = s.root) := by
  have hst := h.hs i h0 h1 hH
  have hash := h.hash h0 h1 hst
  have hr := hashV_rng (A i).kind (A i).data
  obtain ⟨L, hL⟩ := h.hg
  generalize hc : hashV (A i).kind (A i).data % 8 = c at *
  have hc0 : 0 ≤ c := by omega
  have hc1 : c < 8 := by omega
  obtain ⟨l1, l2, l3⟩ := hL c hc0 hc1
  have hmem : i ∈ L c := (l3 i).2 ⟨h0, h1, hH, hc⟩
  have entK : ∀ {tab' : Int → Entr}, (∀ j, 1 ≤ j → j ≤ 48 → ∃ v, tab' j = { (s.tab j) with nxt := v } ∧ (v = (s.tab j).nxt ∨ (A j).st ≠ 0)) → ∀ j, 1 ≤ j → j ≤ 48 → EntOk D (tab' j) (A j) := by
    intro tab' ht j j0 j1
    obtain ⟨v, e1, e2⟩ := ht j j0 j1
    rw [e1]
    rcases e2 with rfl | e2
    · exact h.ent j j0 j1
    · exact (h.ent j j0 j1).nxt e2 v
  have memE : ∀ j, j ∈ (L c).erase i ↔ (1 ≤ j ∧ j ≤ 48 ∧ (H j ∧ j ≠ i) ∧ hashV (A j).kind (A j).data % 8 = c) := by
    intro j
    rw [l2.mem_erase_iff, l3 j]
    constructor
    · rintro ⟨g1, g2, g3, g4, g5⟩; exact ⟨g2, g3, ⟨g4, g1⟩, g5⟩
    · rintro ⟨g2, g3, ⟨g4, g1⟩, g5⟩; exact ⟨g1, g2, g3, g4, g5⟩
  have other : ∀ {tab' : Int → Entr} {b : Int}, 0 ≤ b → b < 8 → b ≠ c → (∀ j, j ∉ L c → (tab' j).nxt = (s.tab j).nxt) → Hng tab' (s.heads b) (L b) ∧ (L b).Nodup ∧ ∀ j, j ∈ L b ↔ (1 ≤ j ∧ j ≤ 48 ∧ (H j ∧ j ≠ i) ∧ hashV (A j).kind (A j).data % 8 = b) := by
    intro tab' b b0 b1 hb ht
    obtain ⟨m1, m2, m3⟩ := hL b b0 b1
    refine ⟨m1.congr (fun j hj => ht j (fun hj2 => hb ?_)), m2, fun j => ?_⟩
    · have g1 := ((m3 j).1 hj).2.2.2
      have g2 := ((l3 j).1 hj2).2.2.2
      omega
    · rw [m3 j]
      constructor
      · rintro ⟨g1, g2, g3, g4⟩; exact ⟨g1, g2, ⟨g3, by rintro rfl; exact hb (g4.symm.trans hc)⟩, g4⟩
      · rintro ⟨g1, g2, g3, g4⟩; exact ⟨g1, g2, g3.1, g4⟩
  unfold m319
  refine Ok_ck (by omega) (by omega) ?_
  rw [hash]
  refine Ok_cl1 (bucketOf_ok hr.1 hr.2) ?_
  rw [hc]
  refine Ok_ck (by omega) (by omega) (Ok_ite (fun he => ?_) (fun he => ?_))
  · refine Ok_ck (by omega) (by omega) (Ok_ck (by omega) (by omega) (Ok_nm (Ok_ck (by omega) (by omega) (Ok_nm (Ok.some' ⟨?_, rfl⟩)))))
    obtain ⟨r, hLr⟩ : ∃ r, L c = i :: r := by
      cases hl : L c with
      | nil => rw [hl] at hmem; cases hmem
      | cons a r => rw [hl] at l1; have := l1.1; exact ⟨r, by rw [← he, this]⟩
    rw [hLr] at l1 l2
    have hir := (List.nodup_cons.1 l2).1
    refine ⟨entK (fun j j0 j1 => ?_), h.dis, h.um, h.nf, ⟨upd L c ((L c).erase i), fun b b0 b1 => ?_⟩, fun j j0 j1 hj => h.hs j j0 j1 hj.1⟩
    · show ∃ v, upI s.tab i _ j = _ ∧ _
      by_cases hj : j = i
      · subst hj; exact ⟨0, by simp [upI], .inr hst⟩
      · exact ⟨(s.tab j).nxt, by simp [upI, hj], .inl rfl⟩
    · by_cases hb : b = c
      · subst hb
        simp only [upd, if_true, upI]
        refine ⟨?_, ?_, memE⟩
        · rw [hLr, List.erase_cons_head]
          exact l1.2.2.2.congr (fun j hj => by have : j ≠ i := fun e => hir (e ▸ hj); simp [upI, this])
        · rw [hLr, List.erase_cons_head]; exact (List.nodup_cons.1 l2).2
      · have := other (tab' := upI s.tab i { (s.tab i) with nxt := 0 }) b0 b1 hb (fun j hj => by have : j ≠ i := fun e => hj (by rw [e]; exact hmem); simp [upI, this])
        simpa [upd, upI, hb] using this
  · refine Ok_ck (by omega) (by omega) (Ok_flow ?_)
    unfold m319_w1
    have hlen : (L c).length ≤ 48 := by
      have := nodup_sub_le (U := ids) l2 (fun j hj => mem_ids.2 ⟨((l3 j).1 hj).1, ((l3 j).1 hj).2.1⟩)
      rwa [ids_len] at this
    refine Ok_it2 (fun (x m : Int) => 0 ≤ m ∧ ∃ pre post : List Int, L c = pre ++ x :: post ∧ i ∈ post ∧ Hng s.tab x (x :: post) ∧ (pre.length : Int) = m) (fun _ (m : Int) => (48 - m).toNat) ?_ n (s.heads c) 0 ?_ (by show (48 - 0 : Int).toNat < n; omega)
    · rintro Q lp x m hQ ⟨i0, pre, post, e1, e2, ⟨_, x0, x1, e3⟩, e4⟩ ih
      have hlx : pre.length + post.length + 1 ≤ 48 := by rw [e1] at hlen; simp at hlen; omega
      have hpp := List.length_pos_of_mem e2
      refine Ok_ite2 (fun hm hx => ?_) (fun hcc => absurd (show x = 0 from Classical.not_not.1 (hcc (by omega))) (by omega))
      refine Ok_ck (by omega) (by omega) (Ok_ite (fun hnx => ?_) (fun hnx => ?_))
      · refine Ok_ck (by omega) (by omega) (Ok_ck (by omega) (by omega) (Ok_nm (Ok_ck (by omega) (by omega) (Ok_nm (Ok_bs (Ok.some' (hQ _ (Ok.some' ⟨?_, rfl⟩))))))))
        obtain ⟨r, rfl⟩ : ∃ r, post = i :: r := by
          cases post with
          | nil => cases e2
          | cons a r => rw [hnx] at e3; rw [← e3.1]; exact ⟨r, rfl⟩
        have hnd := l2
        rw [e1, List.nodup_append] at hnd
        obtain ⟨n1, n2, n3⟩ := hnd
        obtain ⟨n4, n5⟩ := List.nodup_cons.1 n2
        obtain ⟨n6, n7⟩ := List.nodup_cons.1 n5
        have hxi : x ≠ i := fun e => n4 (by rw [e]; simp)
        have her : (L c).erase i = pre ++ x :: r := by
          rw [e1, List.erase_append_right _ (fun hp => n3 i hp i (by simp) rfl), List.erase_cons_tail (by simpa using hxi), List.erase_cons_head]
        have hxL : x ∈ L c := by rw [e1]; simp
        have hxs : (A x).st ≠ 0 := h.hs x x0 x1 ((l3 x).1 hxL).2.2.1
        refine ⟨entK (fun j j0 j1 => ?_), h.dis, h.um, h.nf, ⟨upd L c ((L c).erase i), fun b b0 b1 => ?_⟩, fun j j0 j1 hj => h.hs j j0 j1 hj.1⟩
        · show ∃ v, upI (upI s.tab x _) i _ j = _ ∧ _
          by_cases hj : j = i
          · subst hj; exact ⟨0, by simp [upI, hxi.symm], .inr hst⟩
          · by_cases hj2 : j = x
            · subst hj2; exact ⟨(s.tab i).nxt, by simp [upI, hj], .inr hxs⟩
            · exact ⟨(s.tab j).nxt, by simp [upI, hj, hj2], .inl rfl⟩
        · by_cases hb : b = c
          · subst hb
            simp only [upd, if_true]
            refine ⟨?_, ?_, memE⟩
            · rw [her]
              rw [e1] at l1
              exact l1.cut (fun j hj => ⟨n3 j hj x (by simp), n3 j hj i (by simp)⟩) hxi (fun hx => n4 (List.mem_cons_of_mem _ hx)) n6
            · rw [her, List.nodup_append]
              exact ⟨n1, List.nodup_cons.2 ⟨fun hx => n4 (List.mem_cons_of_mem _ hx), n7⟩, fun a ha y hy => n3 a ha y (by rcases List.mem_cons.1 hy with rfl | hy; simp; simp [hy])⟩
          · have := other (tab' := upI (upI s.tab x { (s.tab x) with nxt := (s.tab i).nxt }) i { (upI s.tab x { (s.tab x) with nxt := (s.tab i).nxt } i) with nxt := 0 }) b0 b1 hb (fun j hj => by
              have g1 : j ≠ i := fun e => hj (by rw [e]; exact hmem)
              have g2 : j ≠ x := fun e => hj (by rw [e]; exact hxL)
              simp [upI, g1, g2])
            simpa [upd, hb] using this
      · refine Ok_ck (by omega) (by omega) ?_
        simp (disch := omega) only [wi_of]
        cases post with
        | nil => cases e2
        | cons a r =>
          have ha := e3.1
          refine ih _ _ ⟨by omega, pre ++ [x], r, by rw [e1, ha]; simp, ?_, by rw [ha] at e3 ⊢; exact e3, by simp; omega⟩ (by omega)
          rcases List.mem_cons.1 e2 with rfl | e2
          · exact absurd ha hnx
          · exact e2
    · cases hl : L c with
      | nil => rw [hl] at hmem; cases hmem
      | cons a r =>
        rw [hl] at l1 hmem
        have ha := l1.1
        refine ⟨by omega, [], r, by rw [ha]; rfl, ?_, by rw [ha] at l1 ⊢; exact l1, rfl⟩
        rcases List.mem_cons.1 hmem with rfl | hm
        · exact absurd ha he
        · exact hm
theorem rehang_ok {D : Int → List UInt8} {i : Int} (h : Sti s D A H) (h0 : 1 ≤ i) (h1 : i ≤ 48) (hst : (A i).st ≠ 0) (hH : ¬ H i) : Ok (m166 n s i) (fun s' => Sti s' D A (fun j => H j ∨ j = i) ∧ s'.root = s.root) := by
  have hash := h.hash h0 h1 hst
  have hr := hashV_rng (A i).kind (A i).data
  refine Ok.of (hang_ok h0 h1 (by rw [hash]; exact hr)) ⟨?_, rfl⟩
  rw [hash]
  obtain ⟨L, hL⟩ := h.hg
  refine ⟨fun j j0 j1 => ?_, h.dis, h.um, h.nf, ⟨upd L (hashV (A i).kind (A i).data % 8) (i :: L (hashV (A i).kind (A i).data % 8)), fun b b0 b1 => ?_⟩, fun j j0 j1 hj => ?_⟩
  · by_cases hj : j = i
    · subst hj; simp only [upI, if_true]; exact (h.ent j j0 j1).nxt hst _
    · simp only [upI, if_neg hj]; exact h.ent j j0 j1
  · obtain ⟨l1, l2, l3⟩ := hL b b0 b1
    have hni : i ∉ L b := fun hm => hH ((l3 i).1 hm).2.2.1
    by_cases hb : b = hashV (A i).kind (A i).data % 8
    · rw [← hb]
      simp only [upd, upI, if_true]
      refine ⟨Hng.cons rfl h0 h1 (c := s.heads b) (by simp [upI]) (l1.congr (fun j hj => by have : j ≠ i := fun e => hni (e ▸ hj); simp [upI, this])), List.nodup_cons.2 ⟨hni, l2⟩, fun j => ?_⟩
      rw [List.mem_cons, l3 j]
      constructor
      · rintro (rfl | ⟨g1, g2, g3, g4⟩)
        · exact ⟨h0, h1, .inr rfl, hb.symm⟩
        · exact ⟨g1, g2, .inl g3, g4⟩
      · rintro ⟨g1, g2, g3 | g3, g4⟩
        · exact .inr ⟨g1, g2, g3, g4⟩
        · exact .inl g3
    · simp only [upd, upI, if_neg hb]
      refine ⟨l1.congr (fun j hj => by have : j ≠ i := fun e => hni (e ▸ hj); simp [upI, this]), l2, fun j => ?_⟩
      rw [l3 j]
      constructor
      · rintro ⟨g1, g2, g3, g4⟩; exact ⟨g1, g2, .inl g3, g4⟩
      · rintro ⟨g1, g2, g3 | g3, g4⟩
        · exact ⟨g1, g2, g3, g4⟩
        · subst g3; exact absurd g4.symm hb
  · rcases hj with hj | rfl
    · exact h.hs j j0 j1 hj
    · exact hst
/-- another state for an id that is not free -/
theorem Sti.restate {D : Int → List UInt8} {i v : Int} (h : Sti s D A H) (hst : (A i).st ≠ 0) (v0 : 1 ≤ v) (v1 : v ≤ 3) : Sti { s with tab := upI s.tab i { (s.tab i) with state := v } } D (upd A i { (A i) with st := v }) H := by
  have hk : ∀ j, (upd A i { (A i) with st := v } j).kind = (A j).kind ∧ (upd A i { (A i) with st := v } j).data = (A j).data ∧ (upd A i { (A i) with st := v } j).bl = (A j).bl := by
    intro j; unfold upd; split
    · rename_i e; subst e; exact ⟨rfl, rfl, rfl⟩
    · exact ⟨rfl, rfl, rfl⟩
  refine ⟨fun j j0 j1 => ?_, fun a b c a0 a1 b0 b1 ha hb => ?_, ?_, ?_, ?_, fun j j0 j1 hj => ?_⟩
  · have he := h.ent j j0 j1
    by_cases hj : j = i
    · subst hj
      simp only [upI, upd, if_true]
      obtain ⟨f1, f2, f3⟩ := he.nf hst
      exact ⟨rfl, fun h0 => by have : v = 0 := h0; omega, fun _ => ⟨v0, v1, f3⟩⟩
    · simp only [upI, upd, if_neg hj]; exact he
  · rw [(hk a).2.2] at ha; rw [(hk b).2.2] at hb; exact h.dis a b c a0 a1 b0 b1 ha hb
  · have : usedB (upd A i { (A i) with st := v }) = usedB A := by
      funext b
      rw [Bool.eq_iff_iff, usedB_iff, usedB_iff]
      simp only [(hk _).2.2]
    rw [this]; exact h.um
  · rw [nfr_same hst (by show v ≠ 0; omega)]; exact h.nf
  · obtain ⟨L, hL⟩ := h.hg
    refine ⟨L, fun b b0 b1 => ?_⟩
    obtain ⟨l1, l2, l3⟩ := hL b b0 b1
    refine ⟨l1.congr (fun j _ => ?_), l2, fun j => ?_⟩
    · show (upI s.tab i _ j).nxt = _
      unfold upI; split
      · rename_i e; subst e; rfl
      · rfl
    · rw [l3 j, (hk j).1, (hk j).2.1]
  · by_cases e : j = i
    · subst e; simp only [upd, if_true]; omega
    · simp only [upd, if_neg e]; exact h.hs j j0 j1 hj
end
end Go.Proofs.Qxb6500350aGreat
