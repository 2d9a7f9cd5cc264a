/- PLAIN LAW: DIFF (5): HUNKS. -/
import Derived.Test.Qxb6500350aGreatK62
import Derived.Test.Qxb6500350aGreatT184
import Derived.Test.Qxb6500350aGreatT186
set_option linter.unusedVariables false
set_option linter.unusedSimpArgs false
set_option maxHeartbeats 2000000
namespace Go.Proofs.Qxb6500350aGreat
open Go.Eng Go
/-- a stretch of a list -/
def cutL {α : Type} (l : List α) (p q : Nat) : List α := (l.drop p).take (q - p)
theorem cutL_snoc {α : Type} {l : List α} {p q : Nat} {x : α} (h : p ≤ q) (hx : l[q]? = some x) : cutL l p q ++ [x] = cutL l p (q + 1) := by
  unfold cutL
  rw [show q + 1 - p = (q - p) + 1 by omega, List.take_add_one, List.getElem?_drop, show p + (q - p) = q by omega, hx]
  rfl
theorem cutL_len {α : Type} {l : List α} {p q : Nat} (h : q ≤ l.length) : (cutL l p q).length = q - p := by
  unfold cutL; rw [List.length_take, List.length_drop]; omega
theorem cutL_self {α : Type} {l : List α} {p : Nat} : cutL l p p = [] := by unfold cutL; simp
theorem Ok_slC {α τ : Type} {P : τ → Prop} {l : List α} {p q : Nat} {F : List α → Option τ} (h1 : p ≤ q) (h2 : q ≤ l.length) (k : Ok (F (cutL l p q)) P) : Ok (Option.bind (slL l p q) F) P := by
  refine Ok_sl (by omega) (by omega) (by omega) ?_
  rw [Int.toNat_natCast, Int.toNat_natCast]; exact k
theorem lines_ok {n : Nat} {l : List Str} {p q : Nat} (h1 : p ≤ q) (h2 : q ≤ l.length) (hl : l.length ≤ 10000) : m293 n l p q = some (cutL l p q) := by
  refine Ok.eq ?_
  unfold m293
  refine Ok_ite (fun e => Ok.some' ?_) (fun e => ?_)
  · have : p = q := by omega
    subst this; rw [cutL_self]
  · rw [wi_e (x := (q : Int) - p) (by omega) (by omega)]
    refine Ok_mk (by omega) (by omega) (by omega) (Ok_slC h1 h2 ?_)
    have hc := cutL_len (p := p) h2
    have : cpL (List.replicate ((q : Int) - p).toNat ([] : Str)) (cutL l p q) = some (cutL l p q) := by
      unfold cpL; rw [if_pos ⟨by omega, by rw [hc, List.length_replicate]; omega⟩]
    rw [this]
    exact Ok_bs (Ok.some' rfl)
/-- the hunks of a match -/
def hunkR (a b : List Str) : List Int → Nat → Nat → Nat → List Hunk
  | [], i, p, q => if p < i ∨ q < b.length then [{ at_ := p, del := cutL a p i, ins := cutL b q b.length }] else []
  | m :: ms, i, p, q => if 0 ≤ m then (if p < i ∨ q < m.toNat then [{ at_ := p, del := cutL a p i, ins := cutL b q m.toNat }] else []) ++ hunkR a b ms (i + 1) (i + 1) (m.toNat + 1) else hunkR a b ms (i + 1) p q
theorem drop_cons {α : Type} {m : List α} {i : Nat} {v : α} (h : m[i]? = some v) : m.drop i = v :: m.drop (i + 1) := by
  obtain ⟨h1, h2⟩ := List.getElem?_eq_some_iff.1 h
  rw [List.drop_eq_getElem_cons h1, h2]
section
variable {n : Nat} {a b : List Str} {m : List Int}
theorem hunkR_neg {i p q : Nat} {v : Int} (h : m[i]? = some v) (hv : v < 0) : hunkR a b (m.drop i) i p q = hunkR a b (m.drop (i + 1)) (i + 1) p q := by
  rw [drop_cons h, hunkR, if_neg (by omega)]
theorem hunkR_pos {i p q k : Nat} (h : m[i]? = some (k : Int)) : hunkR a b (m.drop i) i p q = (if p < i ∨ q < k then [{ at_ := (p : Int), del := cutL a p i, ins := cutL b q k }] else []) ++ hunkR a b (m.drop (i + 1)) (i + 1) (i + 1) (k + 1) := by
  rw [drop_cons h, hunkR, if_pos (by omega), Int.toNat_natCast]
theorem hunkR_end {i p q : Nat} (h : m.length ≤ i) : hunkR a b (m.drop i) i p q = if p < i ∨ q < b.length then [{ at_ := (p : Int), del := cutL a p i, ins := cutL b q b.length }] else [] := by
  rw [List.drop_of_length_le h, hunkR]
theorem hunks_ok (hn : 100000 ≤ n) (ha : a.length ≤ 1024) (hb : b.length ≤ 1024) (hm : MOk m a.length b.length) : m256 n a b m = some (hunkR a b m 0 0 0) := by
  refine Ok.eq ?_
  unfold m256
  refine Ok_ob4 ?_
  unfold m256_w1
  refine Ok_it4 (fun (l : List Hunk) (c1 c2 c3 : Int) => ∃ p q i : Nat, c1 = p ∧ c2 = q ∧ c3 = i ∧ l.length ≤ i ∧ i ≤ a.length + 1 ∧ (i ≤ a.length → p ≤ i ∧ q ≤ b.length ∧ (∀ (j : Nat) v, i ≤ j → m[j]? = some v → 0 ≤ v → (q : Int) ≤ v) ∧ l ++ hunkR a b (m.drop i) i p q = hunkR a b m 0 0 0) ∧ (i = a.length + 1 → l = hunkR a b m 0 0 0)) (fun _ _ _ (c3 : Int) => ((a.length : Int) + 1 - c3).toNat) ?_ n [] 0 0 0
    ⟨0, 0, 0, rfl, rfl, rfl, by simp, by omega, fun _ => ⟨by omega, by omega, fun j v _ _ h => by omega, by simp⟩, fun h => by omega⟩ (by show ((a.length : Int) + 1 - 0).toNat < n; omega)
  rintro Q lp l c1 c2 c3 hQ ⟨p, q, i, rfl, rfl, rfl, h1, h2, h3, h4⟩ ih
  refine Ok_ite (fun hle => Ok_ob1 ?_) (fun hgt => Ok.some' (hQ _ (Ok.some' (h4 (by omega)))))
  have hml := hm.len
  obtain ⟨g1, g2, g3, g4⟩ := h3 (by omega)
  rw [wi_e (x := (i : Int) + 1) (by omega) (by omega)]
  refine Ok_ite (fun hlt => Ok_ix (by omega) (by omega) (fun v hv => Ok.some' ?_)) (fun hge => Ok.some' ?_)
  · rw [Int.toNat_natCast] at hv
    have hr := hm.rng i v hv
    refine Ok_ite (fun hv0 => ?_) (fun hv0 => ?_)
    · obtain ⟨k, rfl⟩ : ∃ k : Nat, v = k := ⟨v.toNat, by omega⟩
      have hqk := g3 i k (Nat.le_refl _) hv (by omega)
      rw [hunkR_pos hv] at g4
      rw [wi_e (x := (k : Int) + 1) (by omega) (by omega)]
      have hup : ∀ (j : Nat) w, i + 1 ≤ j → m[j]? = some w → 0 ≤ w → ((k + 1 : Nat) : Int) ≤ w := fun j w hj hw h0 => by have := hm.up i j k w (by omega) hv hw (by omega) h0; omega
      refine Ok_iteO (fun hor => ?_) (fun hn1 hn2 => ?_)
      · refine Ok_cl1 (lines_ok g1 (by omega) (by omega)) (Ok_cl1 (lines_ok (by omega) (by omega) (by omega)) (Ok_apd (by omega) ?_))
        rw [if_pos (by omega), ← List.append_assoc] at g4
        exact ih _ _ _ _ ⟨i + 1, k + 1, i + 1, by omega, by omega, by omega, by simp; omega, by omega, fun _ => ⟨by omega, by omega, hup, g4⟩, fun h => by omega⟩ (by omega)
      · rw [if_neg (by omega), List.nil_append] at g4
        exact ih _ _ _ _ ⟨i + 1, k + 1, i + 1, by omega, by omega, by omega, by omega, by omega, fun _ => ⟨by omega, by omega, hup, g4⟩, fun h => by omega⟩ (by omega)
    · rw [hunkR_neg hv (by omega)] at g4
      exact ih _ _ _ _ ⟨p, q, i + 1, rfl, rfl, by omega, by omega, by omega, fun _ => ⟨by omega, by omega, fun j w hj hw h0 => g3 j w (by omega) hw h0, g4⟩, fun h => by omega⟩ (by omega)
  · have hi : i = a.length := by omega
    rw [hunkR_end (by omega)] at g4
    refine Ok_ite (fun _ => ?_) (fun h => absurd h (by omega))
    rw [wi_e (x := (b.length : Int) + 1) (by omega) (by omega)]
    refine Ok_iteO (fun hor => ?_) (fun hn1 hn2 => ?_)
    · refine Ok_cl1 (lines_ok g1 (by omega) (by omega)) (Ok_cl1 (lines_ok (by omega) (by omega) (by omega)) (Ok_apd (by omega) ?_))
      rw [if_pos (by omega)] at g4
      exact ih _ _ _ _ ⟨i + 1, b.length + 1, i + 1, by omega, by omega, by omega, by simp; omega, by omega, fun h => by omega, fun h => g4⟩ (by omega)
    · rw [if_neg (by omega), List.append_nil] at g4
      exact ih _ _ _ _ ⟨i + 1, b.length + 1, i + 1, by omega, by omega, by omega, by omega, by omega, fun h => by omega, fun h => g4⟩ (by omega)
theorem diffLines_ok (hn : 100000 ≤ n) (ha : a.length ≤ 1024) (hb : b.length ≤ 1024) : m186 n a b = some (hunkR a b (walkM (eqE a b) a.length b.length 0 0) 0 0 0) := by
  refine Ok.eq ?_
  unfold m186
  refine Ok_cl1 (match_ok hn ha hb) ?_
  have hm := walkM_ok (E := eqE a b) (na := a.length) (nb := b.length)
  generalize walkM (eqE a b) a.length b.length 0 0 = m at hm ⊢
  have hml := hm.len
  refine Ok_ob3 ?_
  unfold m186_w1
  refine Ok_it3 (fun (l : List Hunk) (c1 c2 : Int) => ∃ i q : Nat, c1 = i ∧ c2 = q ∧ l.length ≤ i + q ∧ i ≤ a.length ∧ q ≤ b.length ∧ (∀ (j : Nat) v, i ≤ j → m[j]? = some v → 0 ≤ v → (q : Int) ≤ v) ∧ l ++ hunkR a b (m.drop i) i i q = hunkR a b m 0 0 0) (fun _ (c1 c2 : Int) => ((a.length : Int) - c1 + (b.length - c2)).toNat) ?_ n [] 0 0
    ⟨0, 0, rfl, rfl, by simp, by omega, by omega, fun j v _ _ h => by omega, by simp⟩ (by show ((a.length : Int) - 0 + (b.length - 0)).toNat < n; omega)
  rintro Q lp l c1 c2 hQ ⟨i, q, rfl, rfl, h1, h2, h3, h4, h5⟩ ih
  refine Ok_iteO (fun hor => Ok_ob1 ?_) (fun hn1 hn2 => Ok.some' (hQ _ (Ok.some' ?_)))
  rotate_left
  · rw [hunkR_end (by omega), if_neg (by omega), List.append_nil] at h5; exact h5
  have main : (∀ v, m[i]? = some v → v ≠ q) → Ok (
      nm (({ Hunk.zero with at_ := (i : Int) }) : Hunk) fun z2 =>
      ob2 (m186_w2 n a m n i z2) fun c7 z4 =>
      ob1 (cond (decide (c7 < (a.length : Int))) (
        Option.bind (ixL m c7) fun x4 =>
        some x4) (
        some (b.length : Int))) fun c9 =>
      ob2 (m186_w3 n b c9 n q z4) fun c11 z10 =>
      Option.bind (apd l z10) fun l6 =>
      lp l6 c7 c11) Q := by
    intro hne
    refine Ok_nmz (fun z2 hz2 => Ok_ob2 ?_)
    unfold m186_w2
    refine Ok_it2 (fun (c6 : Int) (z : Hunk) => ∃ k : Nat, c6 = k ∧ i ≤ k ∧ k ≤ a.length ∧ z = { at_ := (i : Int), del := cutL a i k, ins := [] } ∧ hunkR a b (m.drop i) i i q = hunkR a b (m.drop k) k i q) (fun (c6 : Int) _ => ((a.length : Int) - c6).toNat) ?_ n i z2
      ⟨i, rfl, by omega, h2, by rw [hz2, cutL_self]; rfl, rfl⟩ (by show ((a.length : Int) - i).toNat < n; omega)
    rintro Q2 lp2 c6 z hQ2 ⟨k, rfl, k1, k2, hz, k3⟩ ih2
    subst hz
    -- behind the deletes
    have rest : (∀ v, m[k]? = some v → 0 ≤ v) → Ok (some ((k : Int), ({ at_ := (i : Int), del := cutL a i k, ins := [] } : Hunk))) Q2 := by
      intro hk0
      refine Ok.some' (hQ2 _ ?_)
      dsimp only
      -- the lines put in
      have ins : ∀ (t : Nat), q ≤ t → t ≤ b.length → (i < k ∨ q < t) → (l ++ [{ at_ := (i : Int), del := cutL a i k, ins := cutL b q t }]) ++ hunkR a b (m.drop k) k k t = hunkR a b m 0 0 0 → (∀ (j : Nat) v, k ≤ j → m[j]? = some v → 0 ≤ v → (t : Int) ≤ v) → Ok (ob2 (m186_w3 n b t n q ({ at_ := (i : Int), del := cutL a i k, ins := [] } : Hunk)) fun c11 z10 =>
        Option.bind (apd l z10) fun l6 => lp l6 k c11) Q := by
        intro t t1 t2 t3 t4 t5
        refine Ok_ob2 ?_
        unfold m186_w3
        refine Ok_it2 (fun (c : Int) (z : Hunk) => ∃ s : Nat, c = s ∧ q ≤ s ∧ s ≤ t ∧ z = { at_ := (i : Int), del := cutL a i k, ins := cutL b q s }) (fun (c : Int) _ => ((t : Int) - c).toNat) ?_ n q _
          ⟨q, rfl, by omega, t1, by rw [cutL_self]⟩ (by show ((t : Int) - q).toNat < n; omega)
        rintro Q3 lp3 c z hQ3 ⟨s, rfl, s1, s2, rfl⟩ ih3
        refine Ok_ite (fun hlt => Ok_ix (by omega) (by omega) (fun x hx => ?_)) (fun hge => Ok.some' (hQ3 _ ?_))
        · rw [Int.toNat_natCast] at hx
          refine Ok_apd (by show (cutL b q s).length < _; rw [cutL_len (by omega)]; omega) (Ok_nmz (fun z12 hz12 => ?_))
          subst hz12
          rw [wi_e (x := (s : Int) + 1) (by omega) (by omega)]
          exact ih3 _ _ ⟨s + 1, by omega, by omega, by omega, by show Hunk.mk _ _ _ = _; rw [← cutL_snoc s1 hx]⟩ (by omega)
        · have : s = t := by omega
          subst this
          dsimp only
          refine Ok_apd (by omega) (ih _ _ _ ⟨k, s, rfl, rfl, by simp; omega, k2, t2, t5, t4⟩ (by omega))
      refine Ok_ob1 (Ok_ite (fun hlt => Ok_ix (by omega) (by omega) (fun v hv => Ok_bs (Ok.some' ?_))) (fun hge => Ok.some' ?_))
      · rw [Int.toNat_natCast] at hv
        have hv0 := hk0 v hv
        have hr := hm.rng k v hv
        obtain ⟨t, rfl⟩ : ∃ t : Nat, v = t := ⟨v.toNat, by omega⟩
        have hqt := h4 k t k1 hv hv0
        have hor2 : i < k ∨ q < t := by
          rcases Nat.lt_or_eq_of_le k1 with h | h
          · exact .inl h
          · subst h; have := hne t hv; omega
        refine ins t (by omega) (by omega) hor2 ?_ (fun j w hj hw h0 => ?_)
        · rw [k3, hunkR_pos hv, if_pos hor2, ← List.append_assoc] at h5
          rw [hunkR_pos hv, if_neg (by omega), List.nil_append]
          exact h5
        · rcases Nat.lt_or_eq_of_le hj with h | h
          · have := hm.up k j t w h hv hw hv0 h0; omega
          · subst h; rw [hv] at hw; have := Option.some.inj hw; omega
      · have hk : k = a.length := by omega
        have hor2 : i < k ∨ q < b.length := by omega
        refine ins b.length h3 (Nat.le_refl _) hor2 ?_ (fun j w hj hw h0 => ?_)
        · rw [k3, hunkR_end (by omega), if_pos hor2] at h5
          rw [hunkR_end (by omega), if_neg (by omega), List.append_nil]
          exact h5
        · have := (List.getElem?_eq_some_iff.1 hw).1; omega
    refine Ok_ob1 (Ok_ite (fun hlt => Ok_ix (by omega) (by omega) (fun v hv => Ok.some' ?_)) (fun hge => Ok.some' ?_))
    · rw [Int.toNat_natCast] at hv
      refine Ok_ite (fun hv0 => Ok_ix (by omega) hlt (fun x hx => ?_)) (fun hv0 => rest (fun w hw => ?_))
      · rw [Int.toNat_natCast] at hx
        refine Ok_apd (by show (cutL a i k).length < _; rw [cutL_len (by omega)]; omega) (Ok_nmz (fun z7 hz7 => ?_))
        subst hz7
        rw [wi_e (x := (k : Int) + 1) (by omega) (by omega)]
        exact ih2 _ _ ⟨k + 1, by omega, by omega, by omega, by show Hunk.mk _ _ _ = _; rw [← cutL_snoc k1 hx], by rw [k3, hunkR_neg hv hv0]⟩ (by omega)
      · rw [hv] at hw; obtain rfl := Option.some.inj hw; omega
    · exact Ok_cond (fun e => nomatch e) (fun _ => rest (fun w hw => by have := (List.getElem?_eq_some_iff.1 hw).1; omega))
  refine Ok_ite (fun hlt => Ok_ix (by omega) (by omega) (fun v hv => Ok.some' ?_)) (fun hge => Ok.some' ?_)
  · rw [Int.toNat_natCast] at hv
    refine Ok_ite (fun e => ?_) (fun e => main (fun w hw => by rw [hv] at hw; obtain rfl := Option.some.inj hw; exact e))
    subst e
    have hr := hm.rng i q hv
    rw [hunkR_pos hv, if_neg (by omega), List.nil_append] at h5
    rw [wi_e (x := (i : Int) + 1) (by omega) (by omega), wi_e (x := (q : Int) + 1) (by omega) (by omega)]
    exact ih _ _ _ ⟨i + 1, q + 1, by omega, by omega, by omega, by omega, by omega, fun j w hj hw h0 => by have := hm.up i j q w (by omega) hv hw (by omega) h0; omega, h5⟩ (by omega)
  · exact Ok_cond (fun e => nomatch e) (fun _ => main (fun w hw => by have := (List.getElem?_eq_some_iff.1 hw).1; omega))
end
/-- the hunks between two texts -/
def diffH (n : Nat) (a b : Str) : List Hunk := hunkR (lin n a) (lin n b) (walkM (eqE (lin n a) (lin n b)) (lin n a).length (lin n b).length 0 0) 0 0 0
theorem lin_mem {n : Nat} {s x : Str} (hn : 100000 ≤ n) (hs : s.length ≤ 1024) (hx : x ∈ lin n s) : x.length ≤ 1024 := by
  have h := (lin_of hn hs).flat
  have : x.length ≤ (lin n s).flatten.length := List.Sublist.length_le (List.sublist_flatten_of_mem hx)
  rw [h] at this; omega
theorem diff_ok {n : Nat} {e : Engine} {a b : Str} (hn : 100000 ≤ n) (ha : a.length ≤ 1024) (hb : b.length ≤ 1024) : ∃ e', m184 n e a b = some (diffH n a b, 0, e') := by
  suffices Ok (m184 n e a b) (fun r => r.1 = diffH n a b ∧ r.2.1 = 0) by
    obtain ⟨⟨h, k, e'⟩, h1, rfl, rfl⟩ := this
    exact ⟨e', h1⟩
  unfold m184
  refine Ok_iteO (fun h => by omega) (fun _ _ => Ok_cl1 (split_ok hn ha) (Ok_cl1 (split_ok hn hb) ?_))
  obtain ⟨e1, h1, h2, h3⟩ := ereset_ok (e := e) hn
  have la := (lin_of hn ha).len
  have lb := (lin_of hn hb).len
  obtain ⟨x, e2, g1, g2, g3, ext, g4, g5⟩ := numbers_ok hn h2 (l := lin n a) (by rw [h3]; simp; omega) (fun s hs => lin_mem hn ha hs)
  have hl2 : e2.line_.length ≤ 1024 := by rw [g4, h3, List.nil_append]; omega
  obtain ⟨y, e3, k1, k2, k3, ext2, k4, k5⟩ := numbers_ok hn g2 (l := lin n b) (by omega) (fun s hs => lin_mem hn hb hs)
  have hx : NumOf e3.line_ (lin n a) x := by rw [k4]; exact g3.ext
  have hE := hx.eqE k2.nd k3
  refine Ok_cl1 h1 (Ok_cl2 g1 (Ok_cl2 k1 (Ok_cl1 (matchN_ok hn (by rw [g3.len]; omega) (by rw [k3.len]; omega)) ?_)))
  rw [hE, g3.len, k3.len]
  exact Ok_cl1 (hunks_ok hn (by omega) (by omega) walkM_ok) (Ok.some' ⟨rfl, rfl⟩)
end Go.Proofs.Qxb6500350aGreat
