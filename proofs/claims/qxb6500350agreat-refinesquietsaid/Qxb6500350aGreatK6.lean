/- PLAIN LAW: PUT. -/
import Derived.Test.Qxb6500350aGreatK5
import Derived.Test.Qxb6500350aGreatT274
set_option linter.unusedVariables false
set_option linter.unusedSimpArgs false
set_option maxHeartbeats 1000000
namespace Go.Proofs.Qxb6500350aGreat
open Go.Eng Go
/-- the device goes on: k more writes, all to blocks of P -/
structure DevTo (d d' : Dev) (k : Nat) (P : Int → Prop) : Prop where
  good : d'.Good
  base : d'.base = d.base
  ws : ∃ W, d'.ws = d.ws ++ W ∧ W.length = k ∧ ∀ w, w ∈ W → P w.1
theorem applyW_out {W : List (Int × List UInt8)} : ∀ {l : List UInt8} {b : Int}, l.length = 9280 → (∀ w, w ∈ W → 0 ≤ w.1 ∧ w.1 < 145 ∧ w.2.length = 64) → 0 ≤ b → b < 145 → (∀ w, w ∈ W → w.1 ≠ b) → blkOf (applyW l W) b = blkOf l b := by
  induction W with
  | nil => intros; rfl
  | cons w r ih =>
    intro l b hl hw h0 h1 hb
    have h2 := hw w (by simp)
    show blkOf (applyW (setBlk l w.1 w.2) r) b = _
    rw [ih (setBlk_len hl h2.1 h2.2.1 h2.2.2) (fun v hv => hw v (List.mem_cons_of_mem _ hv)) h0 h1 (fun v hv => hb v (List.mem_cons_of_mem _ hv))]
    exact blkOf_set_ne hl h2.1 h2.2.1 h2.2.2 h0 h1 (fun h => hb w (by simp) h.symm)
theorem DevTo.out {d d' : Dev} {k : Nat} {P : Int → Prop} (h : DevTo d d' k P) (hd : d.Good) {b : Int} (h0 : 0 ≤ b) (h1 : b < 145) (hb : ¬ P b) : d'.B b = d.B b := by
  obtain ⟨W, h2, h3, h4⟩ := h.ws
  have h5 := h.good.rec_
  rw [h.base, h2, applyW_app, ← hd.rec_] at h5
  show blkOf d'.blk b = _
  rw [h5]
  refine applyW_out hd.lb (fun w hw => Dev.ws_mem h.good.toWf (by rw [h2]; exact List.mem_append_right _ hw)) h0 h1 (fun w hw he => hb (he ▸ h4 w hw))
theorem DevTo.refl {d : Dev} {P : Int → Prop} (h : d.Good) : DevTo d d 0 P := ⟨h, rfl, [], by simp, rfl, fun w hw => by cases hw⟩
theorem DevTo.trans {d d' d'' : Dev} {k k' : Nat} {P : Int → Prop} (h : DevTo d d' k P) (h' : DevTo d' d'' k' P) : DevTo d d'' (k + k') P := by
  obtain ⟨W, h2, h3, h4⟩ := h.ws
  obtain ⟨W', h2', h3', h4'⟩ := h'.ws
  refine ⟨h'.good, h'.base.trans h.base, W ++ W', by rw [h2', h2, List.append_assoc], by simp [h3, h3'], fun w hw => ?_⟩
  rcases List.mem_append.1 hw with hw | hw
  · exact h4 w hw
  · exact h4' w hw
theorem DevTo.mono {d d' : Dev} {k : Nat} {P P' : Int → Prop} (h : DevTo d d' k P) (hp : ∀ b, P b → P' b) : DevTo d d' k P' := by
  obtain ⟨W, h2, h3, h4⟩ := h.ws
  exact ⟨h.good, h.base, W, h2, h3, fun w hw => hp _ (h4 w hw)⟩
theorem DevTo.put {d : Dev} {b : Int} {x : List UInt8} {P : Int → Prop} (h : d.Good) (h0 : 0 ≤ b) (h1 : b < 145) (hx : x.length = 64) (hb : P b) : DevTo d (d.put b x) 1 P :=
  ⟨h.put h0 h1 hx, rfl, [(b, x)], Dev.put_ws h.toWf hx, rfl, fun w hw => by rw [List.mem_singleton.1 hw]; exact hb⟩
theorem DevTo.steps {d d' : Dev} {k : Nat} {P : Int → Prop} (h : DevTo d d' k P) : d'.at_.length = d.at_.length + k := by
  obtain ⟨W, h2, h3, h4⟩ := h.ws
  rw [← Dev.ws_len, h2, List.length_append, Dev.ws_len, h3]
theorem Chn_of {D : Int → List UInt8} {k : Int} : ∀ {cs : List (List UInt8)} {P : List Int}, P.length = cs.length → (∀ x, x ∈ P → 1 ≤ x ∧ x < 145) → (∀ c, c ∈ cs → c.length ≤ 60) →
    (∀ j : Nat, j < cs.length → ∀ b c, P[j]? = some b → cs[j]? = some c → D b = packB k (P.getD (j + 1) 0) c) → Chn D k (P.headD 0) cs P
  | [], P, hl, _, _, _ => by
    have : P = [] := List.eq_nil_of_length_eq_zero hl
    subst this; exact ⟨rfl, rfl⟩
  | c :: r, [], hl, _, _, _ => by cases hl
  | c :: r, b :: P, hl, hp, hc, h => by
    have hb := hp b (by simp)
    refine ⟨P.headD 0, P, rfl, hb.1, hb.2, hc c (by simp), ?_, Chn_of (by simpa using hl) (fun x hx => hp x (List.mem_cons_of_mem _ hx)) (fun x hx => hc x (List.mem_cons_of_mem _ hx)) (fun j hj b' c' h1 h2 => ?_)⟩
    · have := h 0 (by simp) b c rfl rfl
      rw [show (b :: P).getD (0 + 1) 0 = P.headD 0 by cases P <;> rfl] at this
      exact this
    · have := h (j + 1) (by simp; omega) b' c' (by simpa using h1) (by simpa using h2)
      simpa using this
theorem cnt_one {l : List Int} {i : Int} {p q : Int → Bool} (hp : p i = true) (hq : q i = false) (he : ∀ j, j ≠ i → p j = q j) : l.Nodup → i ∈ l → (l.filter p).length = (l.filter q).length + 1 := by
  induction l with
  | nil => intro _ h; cases h
  | cons a r ih =>
    intro hn hi
    obtain ⟨h1, h2⟩ := List.nodup_cons.1 hn
    rcases List.mem_cons.1 hi with rfl | hi
    · have : r.filter p = r.filter q := List.filter_congr (fun x hx => he x (fun e => h1 (e ▸ hx)))
      simp [List.filter_cons, hp, hq, this]
    · have hne : a ≠ i := fun e => h1 (e ▸ hi)
      have := ih h2 hi
      simp only [List.filter_cons, he a hne]
      cases q a <;> simp [this]
theorem ids_nodup : ids.Nodup := by decide
theorem nfr_less {A : Int → Ob} {i : Int} {o : Ob} (h0 : 1 ≤ i) (h1 : i ≤ 48) (hA : (A i).st = 0) (ho : o.st ≠ 0) : nfr A = nfr (upd A i o) + 1 :=
  cnt_one (by simp [hA]) (by simp [upd, ho]) (fun j hj => by simp [upd, hj]) ids_nodup (mem_ids.2 ⟨h0, h1⟩)
theorem nfr_more {A : Int → Ob} {i : Int} {o : Ob} (h0 : 1 ≤ i) (h1 : i ≤ 48) (hA : (A i).st ≠ 0) (ho : o.st = 0) : nfr (upd A i o) = nfr A + 1 :=
  cnt_one (by simp [upd, ho]) (by simp [hA]) (fun j hj => by simp [upd, hj]) ids_nodup (mem_ids.2 ⟨h0, h1⟩)
theorem nfr_same {A : Int → Ob} {i : Int} {o : Ob} (hA : (A i).st ≠ 0) (ho : o.st ≠ 0) : nfr (upd A i o) = nfr A := by
  unfold nfr
  congr 1
  refine List.filter_congr (fun x _ => ?_)
  unfold upd
  by_cases h : x = i
  · subst h; simp [hA, ho]
  · simp [h]
theorem ids_len : ids.length = 48 := by decide
theorem nfr_le (A : Int → Ob) : nfr A ≤ 48 := by
  have h : (ids.filter fun i => decide ((A i).st = 0)).length ≤ ids.length := List.length_filter_le _ _
  rw [ids_len] at h
  exact h
theorem supB_congr {A A' : Int → Ob} {root : Int} (h : ∀ i : Int, 1 ≤ i → i ≤ 48 → ((A' i).st = 2 ∨ (A' i).st = 3 ↔ (A i).st = 2 ∨ (A i).st = 3) ∧ ((A i).st = 2 ∨ (A i).st = 3 → (A' i).bl = (A i).bl)) : supB A' root = supB A root := by
  unfold supB
  congr 1
  refine List.map_congr_left (fun k hk => ?_)
  by_cases h2 : k < 48
  · have := h (k + 1) (by omega) (by omega)
    by_cases h3 : (A (k + 1)).st = 2 ∨ (A (k + 1)).st = 3
    · rw [if_pos ⟨h2, this.1.2 h3⟩, if_pos ⟨h2, h3⟩, this.2 h3]
    · rw [if_neg (fun h => h3 (this.1.1 h.2)), if_neg (fun h => h3 h.2)]
  · rw [if_neg (fun h => h2 h.1), if_neg (fun h => h2 h.1)]
theorem Sto.blocks {s : Store} {D : Int → List UInt8} {A : Int → Ob} {root : Int} (h : Sto s D A root) {i b : Int} (h0 : 1 ≤ i) (h1 : i ≤ 48) (hb : b ∈ (A i).bl) : (A i).st ≠ 0 ∧ 1 ≤ b ∧ b < 145 := by
  have he := h.ent i h0 h1
  have hs : (A i).st ≠ 0 := by
    intro h2
    rw [(he.fr h2).2] at hb; cases hb
  exact ⟨hs, (he.nf hs).2.2.2.2.2.2.2.2.1.mem b hb⟩
/-- an id that is free leaves room for three blocks -/
theorem room {s : Store} {D : Int → List UInt8} {A : Int → Ob} {root : Int} (h : Sto s D A root) {i : Int} (h0 : 1 ≤ i) (h1 : i ≤ 48) (hA : (A i).st = 0) {P : List Int} (hP : ∀ x, 1 ≤ x → x < 145 → usedB A x = false → x ∈ P) : 3 ≤ P.length := by
  have key : ∀ l : List Int, (∀ j, j ∈ l → 1 ≤ j ∧ j ≤ 48) → (l.flatMap fun j => (A j).bl).length ≤ 3 * (l.filter fun j => decide ((A j).st ≠ 0)).length := by
    intro l
    induction l with
    | nil => intro _; simp
    | cons a r ih =>
      intro hl
      have h2 := ih (fun j hj => hl j (List.mem_cons_of_mem _ hj))
      have h3 := hl a (by simp)
      have he := h.ent a h3.1 h3.2
      simp only [List.flatMap_cons, List.length_append, List.filter_cons]
      by_cases hs : (A a).st = 0
      · rw [(he.fr hs).2]; simp [hs, Ob.free]; simpa using h2
      · have h4 := (he.nf hs).2.2.2.2.2.2.2.2.1.len
        have h5 := nbk_3 (A a).data.length
        unfold chunks at h4
        rw [chunkN_len] at h4
        simp only [hs, ne_eq, not_false_eq_true, decide_true, if_true, List.length_cons]
        simp only [ne_eq] at h2
        omega
  have h2 := key ids (fun j hj => mem_ids.1 hj)
  have h3 : (ids.filter fun j => decide ((A j).st ≠ 0)).length ≤ 47 := by
    have := cnt_one (l := ids) (i := i) (p := fun _ => true) (q := fun j => decide (j ≠ i)) rfl (by simp) (fun j hj => by simp [hj]) ids_nodup (mem_ids.2 ⟨h0, h1⟩)
    have h4 : (ids.filter fun _ => true).length = 48 := by decide
    have h5 : (ids.filter fun j => decide ((A j).st ≠ 0)).length ≤ (ids.filter fun j => decide (j ≠ i)).length := by
      refine nodup_sub_le (ids_nodup.sublist List.filter_sublist) (fun x hx => ?_)
      rw [List.mem_filter] at hx ⊢
      refine ⟨hx.1, ?_⟩
      simp only [ne_eq, decide_eq_true_eq] at hx ⊢
      rintro rfl; exact hx.2 hA
    omega
  have h4 := nodup_sub_le (R := (List.range 144).map fun (k : Nat) => (k : Int) + 1) (U := P ++ ids.flatMap fun j => (A j).bl) (by
    refine List.Pairwise.map _ ?_ List.nodup_range
    intro a b hab h; omega) (fun x hx => by
    simp only [List.mem_map, List.mem_range] at hx
    obtain ⟨k, hk, rfl⟩ := hx
    cases hu : usedB A ((k : Int) + 1) with
    | false => exact List.mem_append_left _ (hP _ (by omega) (by omega) hu)
    | true =>
      obtain ⟨j, j1, j2, j3⟩ := usedB_iff.1 hu
      exact List.mem_append_right _ (List.mem_flatMap.2 ⟨j, mem_ids.2 ⟨j1, j2⟩, j3⟩))
  rw [List.length_map, List.length_range, List.length_append] at h4
  omega
end Go.Proofs.Qxb6500350aGreat
