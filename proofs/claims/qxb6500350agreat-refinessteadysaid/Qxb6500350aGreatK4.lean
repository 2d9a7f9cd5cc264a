/- PLAIN LAW: CHAINS OF BLOCKS. -/
import Derived.Test.Qxb6500350aGreatK3
import Derived.Test.Qxb6500350aGreatT163
import Derived.Test.Qxb6500350aGreatT243
import Derived.Test.Qxb6500350aGreatT295
import Derived.Test.Qxb6500350aGreatT260
import Derived.Test.Qxb6500350aGreatT261
import Derived.Test.Qxb6500350aGreatT297
import Derived.Test.Qxb6500350aGreatT258
import Derived.Test.Qxb6500350aGreatT244
import Derived.Test.Qxb6500350aGreatT301
set_option linter.unusedVariables false
set_option linter.unusedSimpArgs false
set_option maxHeartbeats 1000000
namespace Go.Proofs.Qxb6500350aGreat
open Go.Eng Go
theorem u8_nat {i : Int} (h0 : 0 ≤ i) (h1 : i < 256) : ((u8 i).toNat : Int) = i := by
  rw [← u8_eq, w8]; omega
def packB (k f : Int) (c : List UInt8) : List UInt8 := u8 k :: u8 f :: u8 c.length :: 0 :: (c ++ List.replicate (60 - c.length) 0)
theorem packB_len {k f : Int} {c : List UInt8} (h : c.length ≤ 60) : (packB k f c).length = 64 := by simp [packB]; omega
theorem packB_get {k f : Int} {c : List UInt8} {j : Nat} (h : j < c.length) : (packB k f c)[4 + j]? = c[j]? := by
  unfold packB
  rw [show 4 + j = j + 1 + 1 + 1 + 1 by omega]
  simp only [List.getElem?_cons_succ]
  rw [List.getElem?_append_left h]
theorem packB_zero {k f : Int} {c : List UInt8} {j : Nat} (h : c.length ≤ j) (h1 : j < 60) : (packB k f c)[4 + j]? = some 0 := by
  unfold packB
  rw [show 4 + j = j + 1 + 1 + 1 + 1 by omega]
  simp only [List.getElem?_cons_succ]
  rw [List.getElem?_append_right h]
  rw [List.getElem?_eq_getElem (by simp; omega)]
  simp
def nbk (n : Nat) : Nat := if n ≤ 60 then 1 else if n ≤ 120 then 2 else 3
def chunkN : Nat → List UInt8 → List (List UInt8)
  | 0, _ => []
  | k + 1, x => x.take 60 :: chunkN k (x.drop 60)
def chunks (x : List UInt8) : List (List UInt8) := chunkN (nbk x.length) x
theorem chunkN_len : ∀ (k : Nat) (x : List UInt8), (chunkN k x).length = k
  | 0, _ => rfl
  | k + 1, x => by simp [chunkN, chunkN_len k]
theorem chunkN_flat : ∀ (k : Nat) (x : List UInt8), x.length ≤ 60 * k → (chunkN k x).flatten = x
  | 0, x, h => by
    have : x = [] := List.eq_nil_of_length_eq_zero (by omega)
    subst this; rfl
  | k + 1, x, h => by
    simp only [chunkN, List.flatten_cons]
    rw [chunkN_flat k _ (by simp; omega), List.take_append_drop]
theorem chunkN_le : ∀ (k : Nat) (x c : List UInt8), c ∈ chunkN k x → c.length ≤ 60
  | 0, x, c, h => by cases h
  | k + 1, x, c, h => by
    simp only [chunkN, List.mem_cons] at h
    rcases h with rfl | h
    · simp; omega
    · exact chunkN_le k _ _ h
theorem nbk_le (n : Nat) (h : n ≤ 180) : n ≤ 60 * nbk n := by unfold nbk; split; omega; split <;> omega
theorem nbk_3 (n : Nat) : nbk n ≤ 3 := by unfold nbk; split; omega; split <;> omega
theorem nbk_pos (n : Nat) : 1 ≤ nbk n := by unfold nbk; split; omega; split <;> omega
/-- the blocks bl, beginning at b, hold the pieces cs -/
def Chn (D : Int → List UInt8) (k : Int) : Int → List (List UInt8) → List Int → Prop
  | b, [], bl => b = 0 ∧ bl = []
  | b, c :: r, bl => ∃ f bl', bl = b :: bl' ∧ 1 ≤ b ∧ b < 145 ∧ c.length ≤ 60 ∧ D b = packB k f c ∧ Chn D k f r bl'
theorem Chn.rng {D : Int → List UInt8} {k : Int} : ∀ {cs : List (List UInt8)} {b : Int} {bl : List Int}, Chn D k b cs bl → 0 ≤ b ∧ b < 145
  | [], b, bl, h => by have := h.1; omega
  | c :: r, b, bl, ⟨f, bl', h1, h2, h3, h4, h5, h6⟩ => by omega
theorem Chn.mem {D : Int → List UInt8} {k : Int} : ∀ {cs : List (List UInt8)} {b : Int} {bl : List Int}, Chn D k b cs bl → ∀ x, x ∈ bl → 1 ≤ x ∧ x < 145
  | [], b, bl, h, x, hx => by rw [h.2] at hx; cases hx
  | c :: r, b, bl, ⟨f, bl', h1, h2, h3, h4, h5, h6⟩, x, hx => by
    subst h1
    rcases List.mem_cons.1 hx with rfl | hx
    · exact ⟨h2, h3⟩
    · exact h6.mem x hx
theorem Chn.len {D : Int → List UInt8} {k : Int} : ∀ {cs : List (List UInt8)} {b : Int} {bl : List Int}, Chn D k b cs bl → bl.length = cs.length
  | [], b, bl, h => by rw [h.2]; rfl
  | c :: r, b, bl, ⟨f, bl', h1, h2, h3, h4, h5, h6⟩ => by subst h1; simp [h6.len]
theorem Chn.congr {D D' : Int → List UInt8} {k : Int} : ∀ {cs : List (List UInt8)} {b : Int} {bl : List Int}, Chn D k b cs bl → (∀ x, x ∈ bl → D' x = D x) → Chn D' k b cs bl
  | [], b, bl, h, _ => h
  | c :: r, b, bl, ⟨f, bl', h1, h2, h3, h4, h5, h6⟩, hx => by
    subst h1
    exact ⟨f, bl', rfl, h2, h3, h4, by rw [hx b (by simp)]; exact h5, h6.congr (fun x h => hx x (List.mem_cons_of_mem _ h))⟩

section
variable {n : Nat} {s : Store} {d : Dev}
theorem block_ok {b : Int} (hn : 100000 ≤ n) (h : d.Wf) (h0 : 0 ≤ b) (h1 : b < 145) : m163 n s d b = some (d.B b) := by
  refine Ok.eq ?_
  unfold m163
  exact Ok_cl2 (read_ok hn h h0 h1) (Ok_ite (fun h => absurd rfl h) (fun _ => Ok.some' rfl))
theorem nextOf_ok {k f : Int} {c : List UInt8} (h0 : 0 ≤ f) (h1 : f < 145) : m243 n (packB k f c) = some f := by
  refine Ok.eq ?_
  unfold m243
  refine Ok_ix (by omega) (by simp [packB]; omega) (fun x hx => ?_)
  have hx : u8 f = x := by simpa [packB] using hx
  subst hx
  rw [u8_nat h0 (by omega)]
  exact Ok_ite (fun h => by omega) (fun _ => Ok.some' rfl)
theorem countOf_ok {k f : Int} {c : List UInt8} (h : c.length ≤ 60) : m295 n (packB k f c) = some (c.length : Int) := by
  refine Ok.eq ?_
  unfold m295
  refine Ok_ix (by omega) (by simp [packB]; omega) (fun x hx => ?_)
  have hx : u8 (c.length : Int) = x := by simpa [packB] using hx
  subst hx
  rw [u8_nat (by omega) (by omega)]
  exact Ok_ite (fun h => by omega) (fun _ => Ok.some' rfl)
theorem blocksOf_ok {k : Nat} : m258 n (k : Int) = some (nbk k : Int) := by
  refine Ok.eq ?_
  unfold m258
  refine Ok_ite (fun h => Ok.some' ?_) (fun h => Ok_ite (fun h2 => Ok.some' ?_) (fun h2 => Ok.some' ?_))
  all_goals unfold nbk
  · rw [if_pos (by omega)]; rfl
  · rw [if_neg (by omega), if_pos (by omega)]; rfl
  · rw [if_neg (by omega), if_neg (by omega)]; rfl
theorem packB_at {k f : Int} {c : List UInt8} {j : Int} {x : UInt8} (h0 : 0 ≤ j) (h : j < c.length) (hx : (packB k f c)[(4 + j).toNat]? = some x) : c[j.toNat]? = some x := by
  rw [← hx, ← packB_get (k := k) (f := f) (show j.toNat < c.length by omega)]
  congr 1; omega

/-- the bytes of an object, read off its chain -/
theorem bytesOf_ok {id k : Int} {x : List UInt8} {bl : List Int} (hn : 100000 ≤ n) (h : d.Wf) (h0 : 0 ≤ id) (h1 : id < 49) (hs : (s.tab id).size = x.length) (hx : x.length ≤ 180)
    (hc : Chn d.B k (s.tab id).first (chunks x) bl) : m260 n s d id = some x := by
  refine Ok.eq ?_
  unfold m260
  refine Ok_ck h0 h1 ?_
  rw [hs]
  refine Ok_mk (by omega) (by omega) (by omega) (Ok_ck h0 h1 (Ok_ob4 ?_))
  unfold m260_w1
  refine Ok_it4 (fun (c1 c2 c3 : Int) (l : List UInt8) => 0 ≤ c3 ∧ ∃ (done : List UInt8) (r : List (List UInt8)) (bl : List Int), Chn d.B k c2 r bl ∧ (r.length : Int) + c3 ≤ 3 ∧ done ++ r.flatten = x ∧ c1 = done.length ∧ l = done ++ List.replicate r.flatten.length 0)
    (fun _ _ (c3 : Int) _ => (3 - c3).toNat) ?_ n 0 (s.tab id).first 0 _ ⟨by omega, [], chunks x, bl, hc, ?_, ?_, rfl, ?_⟩ (by show (3 - 0 : Int).toNat < n; omega)
  · rintro Q lp c1 c2 c3 l hQ ⟨i0, done, r, bl, hch, hr, hd, rfl, rfl⟩ ih
    have hxl : done.length + r.flatten.length = x.length := by rw [← hd]; simp
    refine Ok_ite2 (fun hc3 hc2 => ?_) (fun hc => ?_)
    · cases r with
      | nil => exact absurd hch.1 hc2
      | cons c r =>
        obtain ⟨f, bl', hb1, hb2, hb3, hb4, hb5, hb6⟩ := hch
        have hf := hb6.rng
        refine Ok_cl1 (block_ok hn h (by omega) hb3) ?_
        rw [show d.B c2 = packB k f c from hb5]
        refine Ok_cl1 (countOf_ok hb4) (Ok_ob3 ?_)
        unfold m260_w2
        simp only [List.flatten_cons, List.length_append] at hxl
        refine Ok_it3 (fun (a j : Int) (l : List UInt8) => 0 ≤ j ∧ j ≤ c.length ∧ a = done.length + j ∧ l = done ++ (c.take j.toNat ++ List.replicate (c.length - j.toNat + r.flatten.length) 0)) (fun _ j _ => (60 - j).toNat) ?_ _ _ _ _ ⟨by omega, by omega, by omega, by simp⟩ (by show (60 - 0 : Int).toNat < n; omega)
        rintro Q2 lp2 a j l hQ2 ⟨j0, j1, rfl, rfl⟩ ih2
        have hll : (done ++ (c.take j.toNat ++ List.replicate (c.length - j.toNat + r.flatten.length) (0 : UInt8))).length = done.length + c.length + r.flatten.length := by simp; omega
        refine Ok_ite2 (fun h2 h3 => ?_) (fun h2 => ?_)
        · simp (disch := omega) only [wi_of]
          refine Ok_ix (by omega) (by rw [packB_len hb4]; omega) (fun y hy => ?_)
          have hy := packB_at j0 h2 hy
          refine Ok_ck (by omega) (by rw [hll]; omega) (Ok_st (by omega) (by rw [hll]; omega) ?_)
          refine ih2 _ _ _ ⟨by omega, by omega, by omega, ?_⟩ (by omega)
          rw [show ((done.length : Int) + j).toNat = done.length + j.toNat by omega, List.set_append_right _ _ (by omega)]
          congr 1
          rw [show done.length + j.toNat - done.length = j.toNat by omega]
          have hjc : j.toNat < c.length := by omega
          rw [List.set_append_right _ _ (by simp; omega)]
          rw [show (j + 1).toNat = j.toNat + 1 by omega, List.take_add_one, hy, List.append_assoc]
          congr 1
          rw [show c.length - j.toNat + r.flatten.length = (c.length - (j.toNat + 1) + r.flatten.length) + 1 by omega, List.replicate_succ]
          rw [show j.toNat - (c.take j.toNat).length = 0 by simp; omega]
          rfl
        · have hj : j = c.length := by
            rcases Classical.em (j < c.length) with h3 | h3
            · exact absurd (show (done.length : Int) + j < _ by rw [hll]; omega) (h2 h3)
            · omega
          subst hj
          refine Ok.some' (hQ2 _ ?_)
          show Ok (ob1 _ _) _
          refine Ok_cl1 (nextOf_ok hf.1 hf.2) ?_
          simp (disch := omega) only [wi_of]
          refine ih _ _ _ _ ⟨by omega, done ++ c, r, bl', hb6, ?_, ?_, ?_, ?_⟩ (by omega)
          · simp only [List.length_cons] at hr; omega
          · simpa using hd
          · simp
          · simp
    · have hr0 : r = [] := by
        cases r with
        | nil => rfl
        | cons c r =>
          obtain ⟨f, bl', hb1, hb2, hb3, hb4, hb5, hb6⟩ := hch
          simp only [List.length_cons] at hr
          exact absurd (show c2 = 0 by
            rcases Classical.em (c3 < 3) with h3 | h3
            · exact Classical.not_not.1 (hc h3)
            · omega) (by omega)
      subst hr0
      refine Ok.some' (hQ _ (Ok.some' ?_))
      simpa using hd
  · unfold chunks; rw [chunkN_len]; have := nbk_3 x.length; omega
  · unfold chunks; simp [chunkN_flat _ _ (nbk_le _ hx)]
  · unfold chunks; simp [chunkN_flat _ _ (nbk_le _ hx)]

/-- are these the bytes of the object? -/
theorem holds_ok {id k : Int} {x y : List UInt8} {bl : List Int} (hn : 100000 ≤ n) (h : d.Wf) (h0 : 0 ≤ id) (h1 : id < 49) (hxy : x.length = y.length) (hx : x.length ≤ 180)
    (hc : Chn d.B k (s.tab id).first (chunks x) bl) : m261 n s d id y = some (decide (x = y)) := by
  refine Ok.eq ?_
  unfold m261
  refine Ok_ck h0 h1 (Ok_flow ?_)
  unfold m261_w1
  refine Ok_it3 (fun (c1 c2 c3 : Int) => 0 ≤ c3 ∧ ∃ (done : List UInt8) (r : List (List UInt8)) (bl : List Int), Chn d.B k c2 r bl ∧ (r.length : Int) + c3 ≤ 3 ∧ done ++ r.flatten = x ∧ c1 = done.length ∧ done = y.take done.length)
    (fun _ _ (c3 : Int) => (3 - c3).toNat) ?_ n 0 (s.tab id).first 0 ⟨by omega, [], chunks x, bl, hc, ?_, ?_, rfl, ?_⟩ (by show (3 - 0 : Int).toNat < n; omega)
  · rintro Q lp c1 c2 c3 hQ ⟨i0, done, r, bl, hch, hr, hd, rfl, hdy⟩ ih
    have hxl : done.length + r.flatten.length = x.length := by rw [← hd]; simp
    refine Ok_ite2 (fun hc3 hc2 => ?_) (fun hc => ?_)
    · cases r with
      | nil => exact absurd hch.1 hc2
      | cons c r =>
        obtain ⟨f, bl', hb1, hb2, hb3, hb4, hb5, hb6⟩ := hch
        have hf := hb6.rng
        refine Ok_cl1 (block_ok hn h (by omega) hb3) ?_
        rw [show d.B c2 = packB k f c from hb5]
        refine Ok_cl1 (countOf_ok hb4) (Ok_flow ?_)
        unfold m261_w2
        simp only [List.flatten_cons, List.length_append] at hxl
        refine Ok_it2 (fun (a j : Int) => 0 ≤ j ∧ j ≤ c.length ∧ a = done.length + j ∧ done ++ c.take j.toNat = y.take (done.length + j.toNat)) (fun _ j => (60 - j).toNat) ?_ _ _ _ ⟨by omega, by omega, by omega, by simpa using hdy⟩ (by show (60 - 0 : Int).toNat < n; omega)
        rintro Q2 lp2 a j hQ2 ⟨j0, j1, rfl, j3⟩ ih2
        refine Ok_ite2 (fun h2 h3 => ?_) (fun h2 => ?_)
        · simp (disch := omega) only [wi_of]
          refine Ok_ix (by omega) (by rw [packB_len hb4]; omega) (fun v hv => ?_)
          have hv := packB_at j0 h2 hv
          refine Ok_ix (by omega) (by omega) (fun w hw => ?_)
          rw [show ((done.length : Int) + j).toNat = done.length + j.toNat by omega] at hw
          refine Ok_ite (fun hne => ?_) (fun heq => ?_)
          · refine Ok_bs (Ok_bs (Ok.some' (hQ2 _ (Ok.some' (hQ _ (Ok.some' ?_))))))
            have : x ≠ y := by
              rintro rfl
              rw [← hd, List.getElem?_append_right (by omega), show done.length + j.toNat - done.length = j.toNat by omega, List.flatten_cons, List.getElem?_append_left (by omega), hv] at hw
              exact hne (by rw [Option.some.inj hw])
            simp [this]
          · have hvw : v = w := by
              have : v.toNat = w.toNat := by
                have := Classical.not_not.1 heq
                omega
              exact UInt8.toNat_inj.1 this
            subst hvw
            refine ih2 _ _ ⟨by omega, by omega, by omega, ?_⟩ (by omega)
            rw [show (j + 1).toNat = j.toNat + 1 by omega, List.take_add_one, hv, ← Nat.add_assoc, List.take_add_one, hw, ← List.append_assoc, j3]
        · have hj : j = c.length := by
            rcases Classical.em (j < c.length) with h3 | h3
            · exact absurd (show (done.length : Int) + j < _ by omega) (h2 h3)
            · omega
          subst hj
          refine Ok.some' (hQ2 _ ?_)
          show Ok (ob1 _ _) _
          refine Ok_cl1 (nextOf_ok hf.1 hf.2) ?_
          simp (disch := omega) only [wi_of]
          refine ih _ _ _ ⟨by omega, done ++ c, r, bl', hb6, ?_, ?_, ?_, ?_⟩ (by omega)
          · simp only [List.length_cons] at hr; omega
          · simpa using hd
          · simp
          · simpa using j3
    · have hr0 : r = [] := by
        cases r with
        | nil => rfl
        | cons c r =>
          obtain ⟨f, bl', hb1, hb2, hb3, hb4, hb5, hb6⟩ := hch
          simp only [List.length_cons] at hr
          exact absurd (show c2 = 0 by
            rcases Classical.em (c3 < 3) with h3 | h3
            · exact Classical.not_not.1 (hc h3)
            · omega) (by omega)
      subst hr0
      refine Ok.some' (hQ _ (Ok.some' ?_))
      simp at hd hxl
      subst hd
      rw [hxy, List.take_length] at hdy
      subst hdy
      simp
  · unfold chunks; rw [chunkN_len]; have := nbk_3 x.length; omega
  · unfold chunks; simp [chunkN_flat _ _ (nbk_le _ hx)]
  · simp

/-- the hash -/
def hashV (k : Int) (x : List UInt8) : Int := x.foldl (fun h (b : UInt8) => (h * 31 + b.toNat) % 4294967296) (k % 4294967296)
theorem hashV_snoc (k : Int) (x : List UInt8) (b : UInt8) : hashV k (x ++ [b]) = (hashV k x * 31 + b.toNat) % 4294967296 := by
  unfold hashV; rw [List.foldl_append]; rfl
theorem hashV_rng (k : Int) (x : List UInt8) : 0 ≤ hashV k x ∧ hashV k x < 4294967296 := by
  rcases List.eq_nil_or_concat x with rfl | ⟨y, b, rfl⟩
  · unfold hashV; simp; omega
  · rw [List.concat_eq_append, hashV_snoc]; omega
theorem hash_step {h : Int} {b : UInt8} : ww ((ww (h * 31)) + (b.toNat : Int)) = (h * 31 + b.toNat) % 4294967296 := by
  show IntKind.u32.wrap (IntKind.u32.wrap (h * 31) + (b.toNat : Int)) = _
  rw [ww_eq, ww_eq]; omega
theorem hashOf_ok {k : Int} {x : List UInt8} (hn : 100000 ≤ n) (hx : x.length ≤ 1000) : m297 n k x = some (hashV k x) := by
  refine Ok.eq ?_
  unfold m297
  refine Ok_ob2 ?_
  unfold m297_w1
  refine Ok_it2 (fun (a j : Int) => 0 ≤ j ∧ j ≤ x.length ∧ a = hashV k (x.take j.toNat)) (fun _ (j : Int) => (x.length - j).toNat) ?_ _ _ _ ⟨by omega, by omega, ?_⟩ (by show ((x.length : Int) - 0).toNat < n; omega)
  · rintro Q lp a j hQ ⟨i0, i1, rfl⟩ ih
    refine Ok_ite (fun hc => ?_) (fun hc => ?_)
    · refine Ok_ix (by omega) (by omega) (fun b hb => ?_)
      rw [hash_step]
      simp (disch := omega) only [wi_of]
      refine ih _ _ ⟨by omega, by omega, ?_⟩ (by omega)
      rw [show (j + 1).toNat = j.toNat + 1 by omega, List.take_add_one, hb]
      exact (hashV_snoc _ _ _).symm
    · refine Ok.some' (hQ _ (Ok.some' ?_))
      rw [List.take_of_length_le (by omega)]
  · show IntKind.u32.wrap k = _
    rw [ww_eq]; rfl
theorem bucketOf_ok {h : Int} (h0 : 0 ≤ h) (h1 : h < 4294967296) : m244 n h = some (h % 8) := by
  unfold m244
  rw [bAnd_w h0 h1 (by omega) (by omega), show (7 : Int).toNat = 7 from rfl, and7]
  show some (IntKind.i64.wrap _) = _
  rw [wi_of (by omega) (by omega)]
  congr 1; omega
end
end Go.Proofs.Qxb6500350aGreat
