/- PLAIN LAW: SETS OF IDS IN A WORD; UP. -/
import Derived.Test.Qxb6500350aGreatK37
import Derived.Test.Qxb6500350aGreatT149
import Derived.Test.Qxb6500350aGreatT176
set_option linter.unusedVariables false
set_option linter.unusedSimpArgs false
set_option maxHeartbeats 1000000
namespace Go.Proofs.Qxb6500350aGreat
open Go.Eng Go
/-- the set x and all that it comes from -/
inductive Anc (par : Int → List Int) (S : Int → Prop) : Int → Prop
  | base {x : Int} : S x → Anc par S x
  | step {x y : Int} : Anc par S y → x ∈ par y → Anc par S x
theorem Anc.least {par : Int → List Int} {S U : Int → Prop} (hS : ∀ x, S x → U x) (hc : ∀ x y, U y → x ∈ par y → U x) {x : Int} (h : Anc par S x) : U x := by
  induction h with
  | base h => exact hS _ h
  | step _ h2 ih => exact hc _ _ ih h2
theorem Anc.congr {par : Int → List Int} {S T : Int → Prop} (h : ∀ x, S x ↔ T x) {x : Int} : Anc par S x ↔ Anc par T x :=
  ⟨fun k => k.least (U := Anc par T) (fun x hx => .base ((h x).1 hx)) (fun x y hy hx => .step hy hx), fun k => k.least (U := Anc par S) (fun x hx => .base ((h x).2 hx)) (fun x y hy hx => .step hy hx)⟩
structure Bits (s : Int) (U : Int → Prop) : Prop where
  lo : 0 ≤ s
  hi : s < 18446744073709551616
  bit : ∀ j : Nat, j < 64 → (s.toNat.testBit j = true ↔ U j)
theorem Bits.congr {s : Int} {U V : Int → Prop} (h : Bits s U) (k : ∀ x, 0 ≤ x → x < 64 → (U x ↔ V x)) : Bits s V := ⟨h.lo, h.hi, fun j hj => (h.bit j hj).trans (k j (by omega) (by omega))⟩
theorem pow_lt64 {i : Int} (h0 : 0 ≤ i) (h1 : i < 64) : (2 ^ i.toNat : Nat) < 18446744073709551616 := by
  have : (2 : Nat) ^ i.toNat < 2 ^ 64 := Nat.pow_lt_pow_right (by decide) (by omega)
  simpa using this
theorem bit_ok {n : Nat} {i : Int} (h0 : 0 ≤ i) (h1 : i < 64) : ∃ b, m222 n i = some b ∧ b = ((2 ^ i.toNat : Nat) : Int) := by
  have hb : wu (bAnd .i64 i 63) = i := by
    have := sh_bit (b := i) h0 (by omega)
    rw [this]; omega
  have hp := pow_lt64 h0 h1
  refine ⟨_, ?_, rfl⟩
  refine Ok.eq ?_
  unfold m222
  rw [hb]
  refine Ok_ckN (by omega) (Ok.some' ?_)
  have := sh_mask (b := i) h0 (by omega)
  rw [show i % 64 = i by omega] at this
  exact this
theorem Bits.one {i : Int} (h0 : 0 ≤ i) (h1 : i < 64) : Bits ((2 ^ i.toNat : Nat) : Int) (fun x => x = i) := by
  have hp := pow_lt64 h0 h1
  refine ⟨Int.natCast_nonneg _, Int.ofNat_lt.2 hp, fun j hj => ?_⟩
  rw [Int.toNat_natCast, Nat.testBit_two_pow, decide_eq_true_eq]
  omega
theorem Bits.or {s t : Int} {U V : Int → Prop} (h : Bits s U) (k : Bits t V) : Bits (bOr .u64 s t) (fun x => U x ∨ V x) := by
  rw [bOr_u h.lo h.hi k.lo k.hi]
  have h1 := h.hi
  have h2 := k.hi
  have hlt : s.toNat ||| t.toNat < 2 ^ 64 := Nat.or_lt_two_pow (by omega) (by omega)
  refine ⟨by omega, by omega, fun j hj => ?_⟩
  rw [Int.toNat_natCast, Nat.testBit_or, Bool.or_eq_true, h.bit j hj, k.bit j hj]
theorem Bits.and {s t : Int} {U V : Int → Prop} (h : Bits s U) (k : Bits t V) : Bits (bAnd .u64 s t) (fun x => U x ∧ V x) := by
  rw [bAnd_u h.lo h.hi k.lo k.hi]
  have h1 := h.hi
  have hle : s.toNat &&& t.toNat ≤ s.toNat := Nat.and_le_left
  refine ⟨by omega, by have := h.lo; omega, fun j hj => ?_⟩
  rw [Int.toNat_natCast, Nat.testBit_and, Bool.and_eq_true, h.bit j hj, k.bit j hj]
theorem Bits.zero : Bits 0 (fun _ => False) := ⟨by omega, by omega, fun j _ => by simp⟩
theorem Bits.test {s i : Int} {U : Int → Prop} (h : Bits s U) (h0 : 0 ≤ i) (h1 : i < 64) : bAnd .u64 s ((2 ^ i.toNat : Nat) : Int) = 0 ↔ ¬ U i := by
  have hp := pow_lt64 h0 h1
  rw [bAnd_u h.lo h.hi (Int.natCast_nonneg _) (Int.ofNat_lt.2 hp), Int.toNat_natCast, Nat.and_two_pow_eq]
  have hb := h.bit i.toNat (by omega)
  rw [show ((i.toNat : Nat) : Int) = i by omega] at hb
  rw [← hb]
  cases s.toNat.testBit i.toNat
  · simp
  · have := Nat.two_pow_pos i.toNat
    simp only [Bool.toNat_true, Nat.one_mul, not_true_eq_false, iff_false]; omega
/-- parents stand in the table, below their children -/
structure Fam (g : Graph) (ord : List Int) (par : Int → List Int) : Prop where
  np : ∀ i, i ∈ ord → (g.com i).np = (par i).length ∧ (par i).length ≤ 2
  get : ∀ i, i ∈ ord → ∀ k : Int, 0 ≤ k → k < (par i).length → (par i)[k.toNat]? = some ((g.com i).par k)
  lo : ∀ i, i ∈ ord → ∀ p, p ∈ par i → p ∈ ord ∧ (g.com p).seq < (g.com i).seq
section
variable {n : Nat} {g : Graph} {ord : List Int} {par : Int → List Int}
theorem up_ok {s : Int} {S : Int → Prop} (hn : 100000 ≤ n) (h : Ordr g ord) (hf : Fam g ord par) (hb : Bits s S) (hS : ∀ x, 0 ≤ x → x < 64 → S x → x ∈ ord) :
    Ok (m223 n g s) (fun r => Bits r (Anc par fun x => x ∈ ord ∧ S x)) := by
  have hgn := h.n
  have hle := h.le
  unfold m223
  refine Ok_ob2 ?_
  rw [wi_e (x := g.n - 1) (by omega) (by omega)]
  unfold m223_w1
  refine Ok_it2 (fun (c k : Int) => -1 ≤ k ∧ k < ord.length ∧ ∃ U : Int → Prop, Bits c U ∧ (∀ x, U x → x ∈ ord) ∧ (∀ x, x ∈ ord → S x → U x) ∧ (∀ x, U x → Anc par (fun x => x ∈ ord ∧ S x) x) ∧ ∀ j, k < j → j < ord.length → U (g.order j) → ∀ p, p ∈ par (g.order j) → U p)
    (fun (_ k : Int) => (k + 1).toNat) ?_ n s (g.n - 1) ⟨by omega, by omega, fun x => x ∈ ord ∧ S x, hb.congr (fun x h1 h2 => ⟨fun hx => ⟨hS x h1 h2 hx, hx⟩, fun hx => hx.2⟩), fun x hx => hx.1, fun x h1 h2 => ⟨h1, h2⟩, fun x hx => .base hx, fun j h1 h2 => by omega⟩ (by show (g.n - 1 + 1).toNat < n; omega)
  rintro Q lp c k hQ ⟨i0, i1, U, u1, u2, u3, u4, u5⟩ ih
  refine Ok_ite (fun hk => ?_) (fun hk => ?_)
  · have hm := h.mem hk i1
    have hr := h.rng _ hm
    have next : ∀ c' (U' : Int → Prop), Bits c' U' → (∀ x, U' x ↔ U x ∨ (U (g.order k) ∧ x ∈ par (g.order k))) → Ok (lp c' (wi (k - 1))) Q := by
      intro c' U' v1 v2
      rw [wi_e (by omega) (by omega)]
      refine ih _ _ ⟨by omega, by omega, U', v1, fun x hx => ?_, fun x h1 h2 => (v2 x).2 (.inl (u3 x h1 h2)), fun x hx => ?_, fun j j0 j1 hj p hp => ?_⟩ (by omega)
      · rcases (v2 x).1 hx with h1 | ⟨_, h1⟩
        · exact u2 x h1
        · exact (hf.lo _ hm x h1).1
      · rcases (v2 x).1 hx with h1 | ⟨h0, h1⟩
        · exact u4 x h1
        · exact .step (u4 _ h0) h1
      · by_cases e : j = k
        · subst e
          rcases (v2 _).1 hj with h1 | ⟨_, h1⟩
          · exact (v2 p).2 (.inr ⟨h1, hp⟩)
          · have := (hf.lo _ hm _ h1).2; omega
        · rcases (v2 _).1 hj with h1 | ⟨_, h1⟩
          · exact (v2 p).2 (.inl (u5 j (by omega) j1 h1 p hp))
          · have h2 := (hf.lo _ hm _ h1).2
            have h3 := h.lt hk (show k < j by omega) j1
            omega
    refine Ok_ck (by omega) (by omega) ?_
    obtain ⟨b, hb1, rfl⟩ := bit_ok (n := n) (i := g.order k) (by omega) (by omega)
    refine Ok_cl1 hb1 ?_
    have ht := u1.test (i := g.order k) (by omega) (by omega)
    refine Ok_ite (fun e => ?_) (fun e => next c U u1 (fun x => ⟨.inl, fun hx => hx.elim id (fun hx => absurd hx.1 (ht.1 (Classical.not_not.1 e)))⟩))
    have hU : U (g.order k) := Classical.not_not.1 (fun hh => e (ht.2 hh))
    have hnp := hf.np _ hm
    refine Ok_ob2 ?_
    unfold m223_w2
    refine Ok_it2 (fun (c' j : Int) => 0 ≤ j ∧ j ≤ (par (g.order k)).length ∧ ∃ U' : Int → Prop, Bits c' U' ∧ ∀ x, U' x ↔ U x ∨ x ∈ (par (g.order k)).take j.toNat) (fun (_ j : Int) => (((par (g.order k)).length : Int) - j).toNat) ?_ n c 0 ⟨by omega, by omega, U, u1, fun x => by simp⟩ (by show (((par (g.order k)).length : Int) - 0).toNat < n; omega)
    rintro Q2 lp2 c' j hQ2 ⟨j0, j1, U', v1, v2⟩ ih2
    refine Ok_ck (by omega) (by omega) ?_
    refine Ok_ite (fun hj => ?_) (fun hj => ?_)
    · have hg := hf.get _ hm j j0 (by omega)
      have hpm := hf.lo _ hm _ (List.mem_of_getElem? hg)
      have hpr := h.rng _ hpm.1
      obtain ⟨b2, hb2, rfl⟩ := bit_ok (n := n) (i := (g.com (g.order k)).par j) (by omega) (by omega)
      refine Ok_ck (by omega) (by omega) (Ok_ck (by omega) (by omega) (Ok_cl1 hb2 ?_))
      rw [wi_e (by omega) (by omega)]
      refine ih2 _ _ ⟨by omega, by omega, _, v1.or (Bits.one (by omega) (by omega)), fun x => ?_⟩ (by omega)
      rw [v2 x, show (j + 1).toNat = j.toNat + 1 by omega, List.take_add_one, hg, List.mem_append, or_assoc]
      simp
    · obtain rfl : j = (par (g.order k)).length := by omega
      refine Ok.some' (hQ2 _ (next _ U' v1 (fun x => ?_)))
      rw [v2 x, Int.toNat_natCast, List.take_length]
      exact ⟨fun hx => hx.imp id (fun hx => ⟨hU, hx⟩), fun hx => hx.imp id (fun hx => hx.2)⟩
  · obtain rfl : k = -1 := by omega
    refine Ok.some' (hQ _ (Ok.some' (u1.congr fun x x0 x1 => ⟨u4 x, fun hx => ?_⟩)))
    refine hx.least (U := U) (fun y hy => u3 y hy.1 hy.2) (fun x y hy hxy => ?_)
    obtain ⟨j, j0, j1, j2⟩ := mem_idx (u2 y hy)
    rw [h.oget j j0 j1] at j2
    have := Option.some.inj j2
    subst this
    exact u5 j (by omega) j1 hy x hxy
theorem up_one {i : Int} (hn : 100000 ≤ n) (h : Ordr g ord) (hf : Fam g ord par) (hi : i ∈ ord) : ∃ b, m222 n i = some b ∧ Ok (m223 n g b) (fun r => Bits r (Anc par fun x => x = i)) := by
  have hr := h.rng i hi
  obtain ⟨b, hb, rfl⟩ := bit_ok (n := n) (i := i) (by omega) (by omega)
  refine ⟨_, hb, (up_ok hn h hf (Bits.one (by omega) (by omega)) (fun x _ _ hx => hx ▸ hi)).mono fun r hr => hr.congr fun x _ _ => Anc.congr fun y => ⟨fun hy => hy.2, fun hy => ⟨hy ▸ hi, hy⟩⟩⟩
theorem anc_mem (hf : Fam g ord par) {S : Int → Prop} (hS : ∀ x, S x → x ∈ ord) {x : Int} (hx : Anc par S x) : x ∈ ord :=
  hx.least (U := fun x => x ∈ ord) hS (fun x y hy hxy => (hf.lo y hy x hxy).1)
open Classical in
/-- Log of a commit that is there -/
theorem log_ok {i : Int} (hn : 100000 ≤ n) (h : Ordr g ord) (hf : Fam g ord par) (hi : i ∈ ord) : m176 n g (g.com i).seq = some (((ord.filter fun x => decide (Anc par (fun y => y = i) x)).map fun x => (g.com x).seq).reverse, 0) := by
  have hgn := h.n
  have hle := h.le
  refine Ok.eq ?_
  unfold m176
  refine Ok_ob1 (Ok.mono (find_ok' hn h _) (fun r hr => ?_))
  rcases hr with ⟨rfl, hno⟩ | ⟨hr1, hr2⟩
  · exact absurd rfl (hno i hi)
  · have hri : r = i := by
      obtain ⟨j, j0, j1, j2⟩ := mem_idx hr1
      obtain ⟨k, k0, k1, k2⟩ := mem_idx hi
      rw [h.oget j j0 j1] at j2
      rw [h.oget k k0 k1] at k2
      have e1 := Option.some.inj j2
      have e2 := Option.some.inj k2
      subst e1 e2
      rcases Int.lt_trichotomy j k with h1 | h1 | h1
      · have := h.lt j0 h1 k1; omega
      · rw [h1]
      · have := h.lt k0 h1 j1; omega
    subst hri
    have hrg := h.rng r hr1
    refine Ok_ite (fun e => by omega) (fun _ => ?_)
    obtain ⟨b, hb, hu⟩ := up_one (n := n) hn h hf hr1
    refine Ok_cl1 hb (Ok_ob1 (hu.mono (fun w hw => Ok_ob2 ?_)))
    rw [wi_e (x := g.n - 1) (by omega) (by omega)]
    unfold m176_w1
    refine Ok_it2 (fun (l : List Int) (k : Int) => -1 ≤ k ∧ k < ord.length ∧ l = (((ord.drop (k + 1).toNat).filter fun x => decide (Anc par (fun y => y = r) x)).map fun x => (g.com x).seq).reverse) (fun _ (k : Int) => (k + 1).toNat) ?_ n [] (g.n - 1) ⟨by omega, by omega, ?_⟩ (by show (g.n - 1 + 1).toNat < n; omega)
    rotate_left
    · rw [List.drop_eq_nil_of_le (by omega)]; rfl
    rintro Q lp l k hQ ⟨i0, i1, rfl⟩ ih
    refine Ok_ite (fun hk => ?_) (fun hk => ?_)
    · have hm := h.mem hk i1
      have hrk := h.rng _ hm
      have hd : ord.drop k.toNat = g.order k :: ord.drop (k + 1).toNat := by
        have hlt : k.toNat < ord.length := by omega
        rw [List.drop_eq_getElem_cons hlt, show (k + 1).toNat = k.toNat + 1 by omega]
        congr 1
        have := h.oget k hk i1
        rw [List.getElem?_eq_getElem hlt] at this; exact Option.some.inj this
      obtain ⟨b2, hb2, rfl⟩ := bit_ok (n := n) (i := g.order k) (by omega) (by omega)
      have ht := hw.test (i := g.order k) (by omega) (by omega)
      refine Ok_ck (by omega) (by omega) (Ok_cl1 hb2 (Ok_ite (fun e => ?_) (fun e => ?_)))
      · have hU := Classical.not_not.1 (fun hh => e (ht.2 hh))
        have hfl : (((ord.drop (k + 1).toNat).filter fun x => decide (Anc par (fun y => y = r) x)).map fun x => (g.com x).seq).reverse.length ≤ 48 := by
          rw [List.length_reverse, List.length_map]
          have := List.length_filter_le (fun x => decide (Anc par (fun y => y = r) x)) (ord.drop (k + 1).toNat)
          rw [List.length_drop] at this; omega
        refine Ok_ck (by omega) (by omega) (Ok_apd (by omega) ?_)
        rw [wi_e (by omega) (by omega)]
        refine ih _ _ ⟨by omega, by omega, ?_⟩ (by omega)
        rw [show (k - 1 + 1).toNat = k.toNat by omega, hd, List.filter_cons, if_pos (by simpa using hU)]
        simp
      · have hU := ht.1 (Classical.not_not.1 e)
        rw [wi_e (by omega) (by omega)]
        refine ih _ _ ⟨by omega, by omega, ?_⟩ (by omega)
        rw [show (k - 1 + 1).toNat = k.toNat by omega, hd, List.filter_cons, if_neg (by simpa using hU)]
    · obtain rfl : k = -1 := by omega
      refine Ok.some' (hQ _ (Ok.some' ?_))
      rfl
/-- the greatest common ancestor -/
theorem mergeBase_ok {i j : Int} (hn : 100000 ≤ n) (h : Ordr g ord) (hf : Fam g ord par) (hi : i ∈ ord) (hj : j ∈ ord) :
    Ok (m149 n g (g.com i).seq (g.com j).seq) (fun r => r.2 = 0 ∧ ((r.1 = 0 ∧ ∀ x, ¬ (Anc par (fun y => y = i) x ∧ Anc par (fun y => y = j) x)) ∨ ∃ x, x ∈ ord ∧ r.1 = (g.com x).seq ∧ Anc par (fun y => y = i) x ∧ Anc par (fun y => y = j) x ∧ ∀ z, Anc par (fun y => y = i) z → Anc par (fun y => y = j) z → (g.com z).seq ≤ (g.com x).seq)) := by
  have hgn := h.n
  have hle := h.le
  have uniq : ∀ r a, r ∈ ord → a ∈ ord → (g.com r).seq = (g.com a).seq → r = a := by
    intro r a hr ha he
    obtain ⟨j, j0, j1, j2⟩ := mem_idx hr
    obtain ⟨k, k0, k1, k2⟩ := mem_idx ha
    rw [h.oget j j0 j1] at j2
    rw [h.oget k k0 k1] at k2
    have e1 := Option.some.inj j2
    have e2 := Option.some.inj k2
    subst e1 e2
    rcases Int.lt_trichotomy j k with h1 | h1 | h1
    · have := h.lt j0 h1 k1; omega
    · rw [h1]
    · have := h.lt k0 h1 j1; omega
  unfold m149
  refine Ok_ob1 (Ok.mono (find_ok' hn h _) (fun r hr => ?_))
  rcases hr with ⟨rfl, hno⟩ | ⟨hr1, hr2⟩
  · exact absurd rfl (hno i hi)
  obtain rfl := uniq r i hr1 hi hr2
  have hrr := h.rng r hr1
  refine Ok_ite (fun e => by omega) (fun _ => ?_)
  refine Ok_ob1 (Ok.mono (find_ok' hn h _) (fun q hq => ?_))
  rcases hq with ⟨rfl, hno⟩ | ⟨hq1, hq2⟩
  · exact absurd rfl (hno j hj)
  obtain rfl := uniq q j hq1 hj hq2
  have hqr := h.rng q hq1
  refine Ok_ite (fun e => by omega) (fun _ => ?_)
  obtain ⟨b, hb, hu⟩ := up_one (n := n) hn h hf hr1
  obtain ⟨b', hb', hu'⟩ := up_one (n := n) hn h hf hq1
  refine Ok_cl1 hb (Ok_cl1 hb' (Ok_ob1 (hu.mono (fun w hw => Ok_ob1 (hu'.mono (fun w' hw' => Ok_flow ?_))))))
  have hboth := hw.and hw'
  rw [wi_e (x := g.n - 1) (by omega) (by omega)]
  unfold m149_w1
  refine Ok_it1 (fun (k : Int) => -1 ≤ k ∧ k < ord.length ∧ ∀ m, k < m → m < ord.length → ¬ (Anc par (fun y => y = r) (g.order m) ∧ Anc par (fun y => y = q) (g.order m))) (fun (k : Int) => (k + 1).toNat) ?_ n (g.n - 1) ⟨by omega, by omega, fun m h1 h2 => by omega⟩ (by show (g.n - 1 + 1).toNat < n; omega)
  rintro Q lp k hQ ⟨i0, i1, i2⟩ ih
  have mem : ∀ z, Anc par (fun y => y = r) z → z ∈ ord := fun z hz => anc_mem (S := fun y => y = r) hf (fun x hx => by rw [show x = r from hx]; exact hr1) hz
  refine Ok_ite (fun hk => ?_) (fun hk => ?_)
  · have hm := h.mem hk i1
    have hrk := h.rng _ hm
    obtain ⟨b2, hb2, rfl⟩ := bit_ok (n := n) (i := g.order k) (by omega) (by omega)
    have ht := hboth.test (i := g.order k) (by omega) (by omega)
    refine Ok_ck (by omega) (by omega) (Ok_cl1 hb2 (Ok_ite (fun e => ?_) (fun e => ?_)))
    · have hU := Classical.not_not.1 (fun hh => e (ht.2 hh))
      refine Ok_ck (by omega) (by omega) (Ok_bs (Ok.some' (hQ _ (Ok.some' ⟨rfl, .inr ⟨g.order k, hm, rfl, hU.1, hU.2, fun z hz1 hz2 => ?_⟩⟩))))
      obtain ⟨m, m0, m1, m2⟩ := mem_idx (mem z hz1)
      rw [h.oget m m0 m1] at m2
      have e1 := Option.some.inj m2
      subst e1
      rcases Int.lt_trichotomy m k with h1 | h1 | h1
      · have := h.lt m0 h1 i1; omega
      · rw [h1]; omega
      · exact absurd ⟨hz1, hz2⟩ (i2 m h1 m1)
    · have hU := ht.1 (Classical.not_not.1 e)
      rw [wi_e (by omega) (by omega)]
      refine ih _ ⟨by omega, by omega, fun m h1 h2 => ?_⟩ (by omega)
      by_cases e2 : m = k
      · subst e2; exact hU
      · exact i2 m (by omega) h2
  · obtain rfl : k = -1 := by omega
    refine Ok.some' (hQ _ (Ok.some' ⟨rfl, .inl ⟨rfl, fun x hx => ?_⟩⟩))
    obtain ⟨m, m0, m1, m2⟩ := mem_idx (mem x hx.1)
    rw [h.oget m m0 m1] at m2
    have e1 := Option.some.inj m2
    subst e1
    exact i2 m (by omega) m1 hx
end
end Go.Proofs.Qxb6500350aGreat
