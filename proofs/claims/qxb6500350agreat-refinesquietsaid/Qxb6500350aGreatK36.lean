/- PLAIN LAW: THE INDEX OF COMMITS: FIND, PLACE, SEQOF. -/
import Derived.Test.Qxb6500350aGreatK35
import Derived.Test.Qxb6500350aGreatT215
import Derived.Test.Qxb6500350aGreatT181
import Derived.Test.Qxb6500350aGreatT211
import Derived.Test.Qxb6500350aGreatT210
set_option linter.unusedVariables false
set_option linter.unusedSimpArgs false
set_option maxHeartbeats 1000000
namespace Go.Proofs.Qxb6500350aGreat
open Go.Eng Go
structure Ordr (g : Graph) (ord : List Int) : Prop where
  n : g.n = ord.length
  le : ord.length ≤ 48
  oget : ∀ k : Int, 0 ≤ k → k < ord.length → ord[k.toNat]? = some (g.order k)
  rng : ∀ i, i ∈ ord → 1 ≤ i ∧ i ≤ 48
  srt : ord.Pairwise fun a b => (g.com a).seq < (g.com b).seq
theorem Ordr.mem {g : Graph} {ord : List Int} (h : Ordr g ord) {k : Int} (h0 : 0 ≤ k) (h1 : k < ord.length) : g.order k ∈ ord := List.mem_of_getElem? (h.oget k h0 h1)
theorem Ordr.lt {g : Graph} {ord : List Int} (h : Ordr g ord) {j k : Int} (h0 : 0 ≤ j) (h1 : j < k) (h2 : k < ord.length) : (g.com (g.order j)).seq < (g.com (g.order k)).seq := by
  have e1 := h.oget j h0 (by omega)
  have e2 := h.oget k (by omega) h2
  obtain ⟨p1, p2⟩ := List.getElem?_eq_some_iff.1 e1
  obtain ⟨q1, q2⟩ := List.getElem?_eq_some_iff.1 e2
  have := List.pairwise_iff_getElem.1 h.srt j.toNat k.toNat p1 q1 (by omega)
  rw [p2, q2] at this; exact this
theorem mem_idx {l : List Int} {i : Int} (h : i ∈ l) : ∃ k : Int, 0 ≤ k ∧ k < l.length ∧ l[k.toNat]? = some i := by
  obtain ⟨j, hj, hj2⟩ := List.mem_iff_getElem.1 h
  exact ⟨j, by omega, by omega, by rw [Int.toNat_natCast, List.getElem?_eq_getElem hj, hj2]⟩
theorem tdiv2 {x : Int} (h : 0 ≤ x) : Int.tdiv x 2 = x / 2 := Int.tdiv_eq_ediv_of_nonneg h
section
variable {n : Nat} {g : Graph} {ord : List Int}
theorem find_ok' (hn : 100000 ≤ n) (h : Ordr g ord) (seq : Int) : Ok (m211 n g seq) (fun r => (r = 0 ∧ ∀ i, i ∈ ord → (g.com i).seq ≠ seq) ∨ (r ∈ ord ∧ (g.com r).seq = seq)) := by
  have hgn := h.n
  have hle := h.le
  unfold m211
  refine Ok_ob2 ?_
  unfold m211_w1
  refine Ok_it2 (fun (lo hi : Int) => 0 ≤ lo ∧ lo ≤ hi ∧ hi ≤ ord.length ∧ (∀ k, 0 ≤ k → k < lo → (g.com (g.order k)).seq < seq) ∧ ∀ k, hi ≤ k → k < ord.length → seq ≤ (g.com (g.order k)).seq) (fun (lo hi : Int) => (hi - lo).toNat) ?_ n 0 g.n
    ⟨by omega, by omega, by omega, fun k h1 h2 => by omega, fun k h1 h2 => by omega⟩ (by show (g.n - 0).toNat < n; omega)
  rintro Q lp lo hi hQ ⟨i0, i1, i2, i3, i4⟩ ih
  refine Ok_ite (fun hc => ?_) (fun hc => ?_)
  · have hmid : wi (Int.tdiv (wi (lo + hi)) 2) = (lo + hi) / 2 := by
      rw [wi_e (x := lo + hi) (by omega) (by omega), tdiv2 (by omega), wi_e (by omega) (by omega)]
    rw [hmid]
    have hm := h.rng _ (h.mem (k := (lo + hi) / 2) (by omega) (by omega))
    refine Ok_ck (by omega) (by omega) (Ok_ck (by omega) (by omega) (Ok_ite (fun hlt => ?_) (fun hlt => ?_)))
    · rw [wi_e (by omega) (by omega)]
      refine ih _ _ ⟨by omega, by omega, by omega, fun k h1 h2 => ?_, i4⟩ (by omega)
      rcases Classical.em (k = (lo + hi) / 2) with rfl | hne
      · exact hlt
      · have := h.lt h1 (show k < (lo + hi) / 2 by omega) (by omega); omega
    · refine ih _ _ ⟨by omega, by omega, by omega, i3, fun k h1 h2 => ?_⟩ (by omega)
      rcases Classical.em (k = (lo + hi) / 2) with rfl | hne
      · omega
      · have := h.lt (show 0 ≤ (lo + hi) / 2 by omega) (show (lo + hi) / 2 < k by omega) h2; omega
  · obtain rfl : lo = hi := by omega
    refine Ok.some' (hQ _ ?_)
    have hno : (lo < ord.length → (g.com (g.order lo)).seq ≠ seq) → ∀ i, i ∈ ord → (g.com i).seq ≠ seq := by
      intro hne i hi
      obtain ⟨k, k0, k1, k2⟩ := mem_idx hi
      rw [h.oget k k0 k1] at k2
      rw [← Option.some.inj k2]
      rcases Int.lt_trichotomy k lo with h1 | h1 | h1
      · have := i3 k k0 h1; omega
      · rw [h1]; exact hne (by omega)
      · have h5 := i4 lo (by omega) (by omega)
        have h6 := h.lt i0 h1 k1
        omega
    refine Ok_ob1 (Ok_ite (fun hc2 => ?_) (fun hc2 => Ok.some' (Ok_cond (fun e => nomatch e) (fun _ => Ok.some' (.inl ⟨rfl, hno (fun hh => absurd hh (by omega))⟩)))))
    have hm := h.rng _ (h.mem i0 (by omega))
    refine Ok_ck (by omega) (by omega) (Ok_ck (by show 0 ≤ g.order lo; omega) (by show g.order lo < 49; omega) (Ok.some' (Ok_ite (fun he => Ok_ck (by omega) (by omega) (Ok.some' (.inr ⟨h.mem i0 (by omega), he⟩))) (fun he => Ok.some' (.inl ⟨rfl, hno (fun _ => he)⟩)))))
theorem seqOf_ok (id : Int) : m210 n g id = some (if 1 ≤ id ∧ id ≤ 48 then (g.com id).seq else 0) := by
  refine Ok.eq ?_
  unfold m210
  refine Ok_iteO (fun h => Ok.some' ?_) (fun h1 h2 => Ok_ck (by omega) (by omega) (Ok.some' ?_))
  · rw [if_neg (by omega)]
  · rw [if_pos ⟨by omega, by omega⟩]
theorem seqs_ok (hn : 100000 ≤ n) (h : Ordr g ord) : m181 n g = some (ord.map fun i => (g.com i).seq) := by
  have hgn := h.n
  have hle := h.le
  refine Ok.eq ?_
  unfold m181
  refine Ok_ob2 ?_
  unfold m181_w1
  refine Ok_it2 (fun (l : List Int) (c : Int) => 0 ≤ c ∧ c ≤ ord.length ∧ l = (ord.take c.toNat).map fun i => (g.com i).seq) (fun _ (c : Int) => ((ord.length : Int) - c).toNat) ?_ n [] 0 ⟨by omega, by omega, by simp⟩ (by show ((ord.length : Int) - 0).toNat < n; omega)
  rintro Q lp l c hQ ⟨i0, i1, rfl⟩ ih
  refine Ok_ite (fun hc => ?_) (fun hc => ?_)
  · have hm := h.rng _ (h.mem i0 (by omega))
    refine Ok_ck (by omega) (by omega) (Ok_ck (by omega) (by omega) (Ok_apd (by rw [List.length_map, List.length_take]; omega) ?_))
    rw [wi_e (by omega) (by omega)]
    refine ih _ _ ⟨by omega, by omega, ?_⟩ (by omega)
    rw [show (c + 1).toNat = c.toNat + 1 by omega, List.take_add_one, h.oget c i0 (by omega), List.map_append]; rfl
  · obtain rfl : c = ord.length := by omega
    refine Ok.some' (hQ _ (Ok.some' ?_))
    rw [Int.toNat_natCast, List.take_length]
theorem place_ok {id : Int} (hn : 100000 ≤ n) (h : Ordr g ord) (h0 : 1 ≤ id) (h1 : id ≤ 48) (hl : ord.length < 48) (hne : ∀ i, i ∈ ord → (g.com i).seq ≠ (g.com id).seq) :
    Ok (m215 n g id) (fun g' => ∃ o1 o2 od, ord = o1 ++ o2 ∧ g' = { g with order := od, n := g.n + 1 } ∧ Ordr g' (o1 ++ id :: o2)) := by
  have hgn := h.n
  unfold m215
  refine Ok_ob2 ?_
  unfold m215_w1
  refine Ok_it2 (fun (c : Int) (z : Graph) => 0 ≤ c ∧ c ≤ ord.length ∧ ∃ od, z = { g with order := od } ∧ (∀ k, 0 ≤ k → k < c → od k = g.order k) ∧ (∀ k, c < k → k ≤ ord.length → od k = g.order (k - 1)) ∧ ∀ k, c ≤ k → k < ord.length → (g.com id).seq < (g.com (g.order k)).seq)
    (fun (c : Int) _ => c.toNat) ?_ n g.n g ⟨by omega, by omega, g.order, rfl, fun _ _ _ => rfl, fun k h2 h3 => by omega, fun k h2 h3 => by omega⟩ (by show g.n.toNat < n; omega)
  rintro Q lp c z hQ ⟨i0, i1, od, rfl, i2, i3, i4⟩ ih
  have key : (0 < c → (g.com (g.order (c - 1))).seq < (g.com id).seq) → Ok (some (c, { g with order := od })) Q := by
    intro hlow
    refine Ok.some' (hQ _ (Ok_ck (by omega) (by show c < 48; omega) (Ok_nm (Ok_nm (Ok.some' ?_)))))
    refine ⟨ord.take c.toNat, ord.drop c.toNat, upI od c id, (List.take_append_drop _ _).symm, ?_, ?_⟩
    · show { g with order := upI od c id, n := wi (g.n + 1) } = _
      rw [wi_e (by omega) (by omega)]
    · have hlen : ((ord.take c.toNat ++ id :: ord.drop c.toNat).length : Int) = ord.length + 1 := by
        simp only [List.length_append, List.length_take, List.length_cons, List.length_drop]; omega
      have htl : (ord.take c.toNat).length = c.toNat := by rw [List.length_take]; omega
      refine ⟨?_, by omega, fun k k0 k1 => ?_, fun i hi => ?_, ?_⟩
      · show wi (g.n + 1) = _; rw [wi_e (by omega) (by omega), hlen]; omega
      · show _ = some (upI od c id k)
        unfold upI
        rcases Int.lt_trichotomy k c with h2 | h2 | h2
        · rw [if_neg (by omega), List.getElem?_append_left (by omega), List.getElem?_take, if_pos (by omega), h.oget k k0 (by omega), i2 k k0 h2]
        · subst h2
          rw [if_pos rfl, List.getElem?_append_right (by omega), htl, Nat.sub_self]; rfl
        · rw [if_neg (by omega), List.getElem?_append_right (by omega), htl, show k.toNat - c.toNat = (k - 1 - c).toNat + 1 by omega, List.getElem?_cons_succ, List.getElem?_drop,
            show c.toNat + (k - 1 - c).toNat = (k - 1).toNat by omega, h.oget (k - 1) (by omega) (by omega), i3 k h2 (by omega)]
      · rcases List.mem_append.1 hi with hi | hi
        · exact h.rng i (List.mem_of_mem_take hi)
        · rcases List.mem_cons.1 hi with rfl | hi
          · exact ⟨h0, h1⟩
          · exact h.rng i (List.mem_of_mem_drop hi)
      · show (ord.take c.toNat ++ id :: ord.drop c.toNat).Pairwise fun a b => (g.com a).seq < (g.com b).seq
        have hs := h.srt
        rw [← List.take_append_drop c.toNat ord, List.pairwise_append] at hs
        obtain ⟨s1, s2, s3⟩ := hs
        have hup : ∀ b, b ∈ ord.drop c.toNat → (g.com id).seq < (g.com b).seq := by
          intro b hb
          obtain ⟨k, k0, k1, k2⟩ := mem_idx hb
          rw [List.length_drop] at k1
          rw [List.getElem?_drop, show c.toNat + k.toNat = (c + k).toNat by omega, h.oget (c + k) (by omega) (by omega)] at k2
          rw [← Option.some.inj k2]
          exact i4 (c + k) (by omega) (by omega)
        refine List.pairwise_append.2 ⟨s1, List.pairwise_cons.2 ⟨hup, s2⟩, fun a ha b hb => ?_⟩
        have hlo : (g.com a).seq < (g.com id).seq := by
          obtain ⟨k, k0, k1, k2⟩ := mem_idx ha
          rw [htl] at k1
          rw [List.getElem?_take, if_pos (by omega), h.oget k k0 (by omega)] at k2
          rw [← Option.some.inj k2]
          have hc0 : 0 < c := by omega
          have := hlow hc0
          rcases Classical.em (k = c - 1) with e | e
          · rw [e]; exact this
          · have := h.lt k0 (show k < c - 1 by omega) (by omega); omega
        rcases List.mem_cons.1 hb with rfl | hb
        · exact hlo
        · exact s3 a ha b hb
  refine Ok_ob1 (Ok_ite (fun hc => ?_) (fun hc => Ok.some' (Ok_cond (fun e => nomatch e) (fun _ => key (fun hh => absurd hh hc)))))
  rw [wi_e (x := c - 1) (by omega) (by omega)]
  have hod := i2 (c - 1) (by omega) (by omega)
  have hmm := h.mem (k := c - 1) (by omega) (by omega)
  have hm := h.rng _ hmm
  refine Ok_ck (by omega) (by omega) (Ok_ck (by show 0 ≤ od (c - 1); omega) (by show od (c - 1) < 49; omega) (Ok_ck (by omega) (by omega) (Ok.some' ?_)))
  show Ok (cond (decide ((g.com id).seq < (g.com (od (c - 1))).seq)) _ _) Q
  rw [hod]
  refine Ok_ite (fun hlt => ?_) (fun hlt => key (fun _ => by have := hne _ hmm; omega))
  refine Ok_ck (by omega) (by omega) (Ok_ck (by omega) (by omega) (Ok_nm ?_))
  refine ih _ _ ⟨by omega, by omega, upI od c (g.order (c - 1)), ?_, fun k k0 k1 => ?_, fun k k0 k1 => ?_, fun k k0 k1 => ?_⟩ (by omega)
  · show { g with order := upI od c (od (c - 1)) } = _; rw [hod]
  · unfold upI; rw [if_neg (by omega)]; exact i2 k k0 (by omega)
  · unfold upI
    rcases Classical.em (k = c) with e | e
    · rw [if_pos e, e]
    · rw [if_neg e]; exact i3 k (by omega) k1
  · rcases Classical.em (k = c - 1) with e | e
    · rw [e]; exact hlt
    · exact i4 k (by omega) k1
end
/-- sorted lists with the same members are one -/
theorem sorted_unique {α : Type} {f : α → Int} : ∀ {a b : List α}, a.Pairwise (fun x y => f x < f y) → b.Pairwise (fun x y => f x < f y) → (∀ x, x ∈ a ↔ x ∈ b) → a = b
  | [], [], _, _, _ => rfl
  | [], y :: b, _, _, h => absurd ((h y).2 (by simp)) (by simp)
  | x :: a, [], _, _, h => absurd ((h x).1 (by simp)) (by simp)
  | x :: a, y :: b, ha, hb, h => by
    obtain ⟨a1, a2⟩ := List.pairwise_cons.1 ha
    obtain ⟨b1, b2⟩ := List.pairwise_cons.1 hb
    have hxy : x = y := by
      rcases List.mem_cons.1 ((h x).1 (by simp)) with h1 | h1
      · exact h1
      · rcases List.mem_cons.1 ((h y).2 (by simp)) with h2 | h2
        · exact h2.symm
        · have := a1 y h2; have := b1 x h1; omega
    subst hxy
    congr 1
    refine sorted_unique a2 b2 fun z => ⟨fun hz => ?_, fun hz => ?_⟩
    · rcases List.mem_cons.1 ((h z).1 (List.mem_cons_of_mem _ hz)) with rfl | h1
      · have := a1 z hz; omega
      · exact h1
    · rcases List.mem_cons.1 ((h z).2 (List.mem_cons_of_mem _ hz)) with rfl | h1
      · have := b1 z hz; omega
      · exact h1
end Go.Proofs.Qxb6500350aGreat
