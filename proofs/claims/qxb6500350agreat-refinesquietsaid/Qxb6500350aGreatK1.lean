/- PLAIN LAW: THE DEVICE. -/
import Derived.Test.Qxb6500350aGreatK0
import Derived.Test.Qxb6500350aGreatT70
import Derived.Test.Qxb6500350aGreatT302
set_option linter.unusedVariables false
set_option linter.unusedSimpArgs false
set_option maxHeartbeats 1000000
namespace Go.Proofs.Qxb6500350aGreat
open Go.Eng Go
def blkOf (l : List UInt8) (b : Int) : List UInt8 := (l.drop (b.toNat * 64)).take 64
def setBlk (l : List UInt8) (b : Int) (x : List UInt8) : List UInt8 := l.take (b.toNat * 64) ++ (x ++ l.drop (b.toNat * 64 + 64))
theorem blkOf_len {l : List UInt8} {b : Int} (h : l.length = 9280) (h0 : 0 ≤ b) (h1 : b < 145) : (blkOf l b).length = 64 := by
  unfold blkOf; simp; omega
theorem setBlk_len {l x : List UInt8} {b : Int} (h : l.length = 9280) (h0 : 0 ≤ b) (h1 : b < 145) (hx : x.length = 64) : (setBlk l b x).length = 9280 := by
  unfold setBlk; simp; omega
theorem blkOf_get {l : List UInt8} {b : Int} {j : Nat} (hj : j < 64) : (blkOf l b)[j]? = l[b.toNat * 64 + j]? := by
  unfold blkOf; rw [List.getElem?_take]; simp [hj]
theorem setBlk_get {l x : List UInt8} {b : Int} (h : l.length = 9280) (h0 : 0 ≤ b) (h1 : b < 145) (hx : x.length = 64) (j : Nat) :
    (setBlk l b x)[j]? = if b.toNat * 64 ≤ j ∧ j < b.toNat * 64 + 64 then x[j - b.toNat * 64]? else l[j]? := by
  unfold setBlk
  have hl : (l.take (b.toNat * 64)).length = b.toNat * 64 := by simp; omega
  by_cases h2 : j < b.toNat * 64
  · rw [List.getElem?_append_left (by omega), List.getElem?_take, if_pos h2, if_neg (by omega)]
  · rw [List.getElem?_append_right (by omega), hl]
    by_cases h3 : j < b.toNat * 64 + 64
    · rw [if_pos ⟨by omega, h3⟩, List.getElem?_append_left (by omega)]
    · rw [if_neg (by omega), List.getElem?_append_right (by omega), List.getElem?_drop, hx]
      congr 1; omega
theorem blkOf_set_same {l x : List UInt8} {b : Int} (h : l.length = 9280) (h0 : 0 ≤ b) (h1 : b < 145) (hx : x.length = 64) : blkOf (setBlk l b x) b = x := by
  apply List.ext_getElem?
  intro j
  by_cases hj : j < 64
  · rw [blkOf_get hj, setBlk_get h h0 h1 hx, if_pos (by omega)]; congr 1; omega
  · have := blkOf_len (setBlk_len h h0 h1 hx) h0 h1
    rw [List.getElem?_eq_none (by omega), List.getElem?_eq_none (by omega)]
theorem blkOf_set_ne {l x : List UInt8} {b c : Int} (h : l.length = 9280) (h0 : 0 ≤ b) (h1 : b < 145) (hx : x.length = 64) (h2 : 0 ≤ c) (h3 : c < 145) (hn : c ≠ b) : blkOf (setBlk l b x) c = blkOf l c := by
  apply List.ext_getElem?
  intro j
  by_cases hj : j < 64
  · rw [blkOf_get hj, blkOf_get hj, setBlk_get h h0 h1 hx, if_neg (by omega)]
  · have := blkOf_len (setBlk_len h h0 h1 hx) h2 h3
    have := blkOf_len h h2 h3
    rw [List.getElem?_eq_none (by omega), List.getElem?_eq_none (by omega)]

/-- a device in order -/
structure Dev.Wf (d : Dev) : Prop where
  lb : d.blk.length = 9280
  la : d.base.length = 9280
  ld : d.data.length = 64 * d.at_.length
  ra : ∀ b, b ∈ d.at_ → 0 ≤ b ∧ b < 145
abbrev Dev.B (d : Dev) (b : Int) : List UInt8 := blkOf d.blk b

theorem read_ok {n : Nat} {d : Dev} {b : Int} (hn : 100000 ≤ n) (h : d.Wf) (h0 : 0 ≤ b) (h1 : b < 145) : m70 n d b = some (d.B b, 0) := by
  refine Ok.eq ?_
  unfold m70
  refine Ok_iteO (fun h => by omega) (fun _ _ => ?_)
  refine Ok_mk (by omega) (by omega) (by omega) ?_
  refine Ok_ob2 ?_
  unfold m70_w1
  refine Ok_it2 (fun c l => 0 ≤ c ∧ c ≤ 64 ∧ l.length = 64 ∧ ∀ j : Nat, j < c.toNat → l[j]? = d.blk[b.toNat * 64 + j]?) (fun c _ => (64 - c).toNat) ?_ _ _ _ (by simp) (by show (64 - 0 : Int).toNat < n; omega)
  rintro Qlp lp c l hQlp ⟨i0, i1, i2, i3⟩ ih
  refine Ok_ite (fun hc => ?_) (fun hc => ?_)
  · have hb := h.lb
    simp (disch := omega) only [wi_of]
    refine Ok_ix (by omega) (by omega) (fun x hx => ?_)
    refine Ok_ck (by omega) (by omega) (Ok_st (by omega) (by omega) ?_)
    refine ih _ _ ⟨by omega, by omega, by simpa using i2, fun j hj => ?_⟩ (by omega)
    rw [List.getElem?_set]
    split
    · rename_i he
      rw [if_pos (by omega), ← hx]; congr 1; omega
    · exact i3 j (by omega)
  · refine Ok.some' (hQlp _ (Ok.some' ?_))
    show (l, (0 : Int)) = _
    have : c = 64 := by omega
    subst this
    congr 1
    apply List.ext_getElem?
    intro j
    by_cases hj : j < 64
    · rw [blkOf_get hj, i3 j (by omega)]
    · have : (d.B b).length = 64 := blkOf_len h.lb h0 h1
      rw [List.getElem?_eq_none (by omega), List.getElem?_eq_none (by omega)]

/-- the device behind a write -/
def Dev.put (d : Dev) (b : Int) (x : List UInt8) : Dev := { blk := setBlk d.blk b x, base := d.base, at_ := d.at_ ++ [b], data := d.data ++ x }
theorem Dev.put_wf {d : Dev} {b : Int} {x : List UInt8} (h : d.Wf) (h0 : 0 ≤ b) (h1 : b < 145) (hx : x.length = 64) : (d.put b x).Wf where
  lb := setBlk_len h.lb h0 h1 hx
  la := h.la
  ld := by simp [Dev.put, h.ld, hx]; omega
  ra := by
    intro c hc
    simp [Dev.put] at hc
    rcases hc with hc | rfl
    · exact h.ra c hc
    · exact ⟨h0, h1⟩
theorem write_ok {n : Nat} {d : Dev} {b : Int} {x : List UInt8} (hn : 100000 ≤ n) (h : d.Wf) (h0 : 0 ≤ b) (h1 : b < 145) (hx : x.length = 64) (hs : d.at_.length < 1000000) : m302 n d b x = some (0, d.put b x) := by
  refine Ok.eq ?_
  have hlb := h.lb
  have hld := h.ld
  unfold m302
  refine Ok_iteO (fun h => by omega) (fun _ _ => ?_)
  refine Ok_ite (fun hc => by omega) (fun _ => ?_)
  refine Ok_ob2 ?_
  unfold m302_w1
  refine Ok_it2 (fun c z => 0 ≤ c ∧ c ≤ 64 ∧ z.base = d.base ∧ z.at_ = d.at_ ∧ z.data = d.data ++ x.take c.toNat ∧ z.blk.length = 9280 ∧
    ∀ j : Nat, z.blk[j]? = if b.toNat * 64 ≤ j ∧ j < b.toNat * 64 + c.toNat then x[j - b.toNat * 64]? else d.blk[j]?) (fun c _ => (64 - c).toNat) ?_ _ _ _ ⟨by omega, by omega, rfl, rfl, by simp, hlb, fun j => by rw [if_neg (by omega)]⟩ (by show (64 - 0 : Int).toNat < n; omega)
  rintro Qlp lp c z hQlp ⟨i0, i1, i2, i3, i4, i5, i6⟩ ih
  refine Ok_ite (fun hc => ?_) (fun hc => ?_)
  · refine Ok_ix (by omega) (by omega) (fun y hy => ?_)
    simp (disch := omega) only [wi_of]
    refine Ok_ck (by omega) (by omega) (Ok_st (by omega) (by omega) (Ok_nm ?_))
    refine Ok_ix (by omega) (by omega) (fun y' hy' => ?_)
    obtain rfl : y = y' := by rw [hy] at hy'; exact Option.some.inj hy'
    have hlen : z.data.length < 1073741824 := by rw [i4]; simp; omega
    refine Ok_apd hlen (Ok_nm ?_)
    refine ih _ _ ⟨by omega, by omega, i2, i3, ?_, by simpa using i5, fun j => ?_⟩ (by omega)
    · show z.data ++ [y] = _
      rw [i4, List.append_assoc]
      congr 1
      have hlt : c.toNat < x.length := by omega
      rw [show (c + 1).toNat = c.toNat + 1 by omega, List.take_add_one, hy]
      rfl
    · show (z.blk.set _ y)[j]? = _
      rw [List.getElem?_set, i6]
      split
      · rename_i he
        rw [if_pos (by omega), if_pos (by omega), ← hy]; congr 1; omega
      · rename_i he
        by_cases hjj : b.toNat * 64 ≤ j ∧ j < b.toNat * 64 + c.toNat
        · rw [if_pos hjj, if_pos (by omega)]
        · rw [if_neg hjj, if_neg (by omega)]
  · obtain rfl : c = 64 := by omega
    refine Ok.some' (hQlp _ ?_)
    show Ok (Option.bind (apd z.at_ b) _) _
    refine Ok_apd (by rw [i3]; omega) (Ok_nm (Ok.some' ?_))
    show (_, _) = (_, _)
    unfold Dev.put
    congr 1
    obtain ⟨zb, za, zt, zd⟩ := z
    simp only at *
    subst i2 i3 i4
    congr 1
    · apply List.ext_getElem?
      intro j
      rw [i6, setBlk_get hlb h0 h1 hx]
      rfl
    · rw [List.take_of_length_le (by omega)]
end Go.Proofs.Qxb6500350aGreat
