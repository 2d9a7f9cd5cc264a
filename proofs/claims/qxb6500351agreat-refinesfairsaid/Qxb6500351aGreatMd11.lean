/- THE PLAIN FUNCTIONS of the table of sockets, continued. No Go in sight. -/
import Derived.Test.Qxb6500351aGreatMd10
import Derived.Test.Qxb6500351aGreatEngI
set_option linter.unusedVariables false
set_option linter.unusedSimpArgs false
namespace Go.Proofs.Qxb6500351aGreat
open Go.Eng
/-! whole rows in the table's cells -/
theorem Tb.S_rows {t : Tb} {r : Rw} {o : Nat} (i : Nat) (hi : i < 6) (ho : o = 0 + i * 15) : setAll t.enc o r.enc.toList = ({ t with rows := upA t.rows i r } : Tb).enc := by
  subst ho
  have qi : i = 0 ∨ i = 1 ∨ i = 2 ∨ i = 3 ∨ i = 4 ∨ i = 5 := by omega
  rcases qi with rfl | rfl | rfl | rfl | rfl | rfl <;> (show _ = _; kernel_rfl)
theorem Tb.S_rows_e {t : Tb} {r : En} {o : Nat} (i : Nat) (hi : i < 6) (ho : o = 1 + i * 15) : setAll t.enc o r.enc.toList = ({ t with rows := upA t.rows i { (t.rows i) with e := r } } : Tb).enc := by
  subst ho
  have qi : i = 0 ∨ i = 1 ∨ i = 2 ∨ i = 3 ∨ i = 4 ∨ i = 5 := by omega
  rcases qi with rfl | rfl | rfl | rfl | rfl | rfl <;> (show _ = _; kernel_rfl)
theorem Tb.E_rows_e {t : Tb} {o : Nat} (i : Nat) (hi : i < 6) (ho : o = 1 + i * 15) : t.enc.extract o (o + 8) = (t.rows i).e.enc := by
  subst ho
  have qi : i = 0 ∨ i = 1 ∨ i = 2 ∨ i = 3 ∨ i = 4 ∨ i = 5 := by omega
  rcases qi with rfl | rfl | rfl | rfl | rfl | rfl <;> rfl
theorem Tb.E_rows {t : Tb} {o : Nat} (i : Nat) (hi : i < 6) (ho : o = 0 + i * 15) : t.enc.extract o (o + 15) = (t.rows i).enc := by
  subst ho
  have qi : i = 0 ∨ i = 1 ∨ i = 2 ∨ i = 3 ∨ i = 4 ∨ i = 5 := by omega
  rcases qi with rfl | rfl | rfl | rfl | rfl | rfl <;> rfl
structure En.Ok (e : En) : Prop where
  lp : 0 ≤ e.lPort ∧ e.lPort < 16
  rh : 0 ≤ e.rHost ∧ e.rHost < 256
  rp : 0 ≤ e.rPort ∧ e.rPort < 16
  slot : -1 ≤ e.slot ∧ e.slot < 4
structure Tb.Ok (t : Tb) : Prop where
  free : -1 ≤ t.free ∧ t.free < 6
  nxt : ∀ i, -1 ≤ (t.rows i).nxt_ ∧ (t.rows i).nxt_ < 6
  buck : ∀ i, -1 ≤ t.bucket i ∧ t.bucket i < 6
  port : ∀ i, -1 ≤ t.port i ∧ t.port i < 6
  blocks : 0 ≤ t.blocks ∧ t.blocks < 256
  ent : ∀ i, (t.rows i).e.Ok
  kids : ∀ i, -1000 ≤ (t.rows i).kids ∧ (t.rows i).kids ≤ 1000
  head : ∀ i, 0 ≤ (t.rows i).head ∧ (t.rows i).head < 2
  n : ∀ i, 0 ≤ (t.rows i).n ∧ (t.rows i).n ≤ 2
  lis : -1000 ≤ t.listeners ∧ t.listeners ≤ 1000
  next : 1 ≤ t.nextSd ∧ t.nextSd ≤ 1152921504606846976
  eph : 8 ≤ t.eph ∧ t.eph ≤ 15
structure Rw.Ok (r : Rw) : Prop where
  nxt : -1 ≤ r.nxt_ ∧ r.nxt_ < 6
  ent : r.e.Ok
  kids : -1000 ≤ r.kids ∧ r.kids ≤ 1000
  head : 0 ≤ r.head ∧ r.head < 2
  n : 0 ≤ r.n ∧ r.n ≤ 2
theorem Tb.Ok.row {t : Tb} (ok : t.Ok) (i : Nat) : (t.rows i).Ok := ⟨ok.nxt i, ok.ent i, ok.kids i, ok.head i, ok.n i⟩
theorem Tb.ok_rows {t : Tb} (ok : t.Ok) (i : Nat) {r : Rw} (h : r.Ok) : Tb.Ok { t with rows := upA t.rows i r } := by
  refine ⟨ok.free, ?_, ok.buck, ok.port, ok.blocks, ?_, ?_, ?_, ?_, ok.lis, ok.next, ok.eph⟩ <;> intro j <;> unfold upA <;> dsimp only <;> split
  · exact h.nxt
  · exact ok.nxt j
  · exact h.ent
  · exact ok.ent j
  · exact h.kids
  · exact ok.kids j
  · exact h.head
  · exact ok.head j
  · exact h.n
  · exact ok.n j
theorem En.ok_zero : En.zero.Ok := ⟨by decide, by decide, by decide, by decide⟩
def Tb.takeT (t : Tb) : Tb := if t.free = -1 then t else { t with free := (t.rows t.free.toNat).nxt_, rows := upA t.rows t.free.toNat { Rw.zero with used := true, nxt_ := -1 } }
theorem Tb.ok_take {t : Tb} (ok : t.Ok) : t.takeT.Ok := by
  unfold Tb.takeT; split
  · exact ok
  · have h := Tb.ok_rows ok t.free.toNat (r := { Rw.zero with used := true, nxt_ := -1 }) ⟨by decide, En.ok_zero, by decide, by decide, by decide⟩
    exact ⟨ok.nxt _, h.nxt, h.buck, h.port, h.blocks, h.ent, h.kids, h.head, h.n, h.lis, h.next, h.eph⟩
def Tb.give (t : Tb) (i : Int) : Tb := { t with rows := upA t.rows i.toNat { Rw.zero with nxt_ := t.free }, free := i }
theorem Tb.ok_give {t : Tb} (ok : t.Ok) {i : Int} (hi : 0 ≤ i ∧ i < 6) : (t.give i).Ok := by
  have h := Tb.ok_rows ok i.toNat (r := { Rw.zero with nxt_ := t.free }) ⟨ok.free, En.ok_zero, (by decide : -1000 ≤ (0:Int) ∧ (0:Int) ≤ 1000), (by decide : 0 ≤ (0:Int) ∧ (0:Int) < 2), (by decide : 0 ≤ (0:Int) ∧ (0:Int) ≤ 2)⟩
  exact ⟨by show -1 ≤ i ∧ i < 6; omega, h.nxt, h.buck, h.port, h.blocks, h.ent, h.kids, h.head, h.n, h.lis, h.next, h.eph⟩
def Tb.hash (t : Tb) (i : Int) : Nat := hashF (t.rows i.toNat).e.lPort (t.rows i.toNat).e.rHost (t.rows i.toNat).e.rPort
def Tb.link (t : Tb) (i : Int) : Tb := { t with rows := upA t.rows i.toNat { (t.rows i.toNat) with nxt_ := t.bucket (t.hash i) }, bucket := upA t.bucket (t.hash i) i }
theorem Tb.ok_link {t : Tb} (ok : t.Ok) {i : Int} (hi : 0 ≤ i ∧ i < 6) : (t.link i).Ok := by
  have r := ok.row i.toNat
  have h := Tb.ok_rows ok i.toNat (r := { (t.rows i.toNat) with nxt_ := t.bucket (t.hash i) }) ⟨ok.buck _, r.ent, r.kids, r.head, r.n⟩
  exact ⟨h.free, h.nxt, fun j => by unfold Tb.link upA; dsimp only; split <;> first | omega | exact ok.buck j, h.port, h.blocks, h.ent, h.kids, h.head, h.n, h.lis, h.next, h.eph⟩
def Tb.unl (t : Tb) (i : Int) : Nat → Int → Tb
  | 0, _ => t
  | f + 1, j => if j = -1 then t else if (t.rows j.toNat).nxt_ = i then { t with rows := upA t.rows j.toNat { (t.rows j.toNat) with nxt_ := (t.rows i.toNat).nxt_ } } else t.unl i f (t.rows j.toNat).nxt_
def Tb.unlink (t : Tb) (i : Int) : Tb := if t.bucket (t.hash i) = i then { t with bucket := upA t.bucket (t.hash i) (t.rows i.toNat).nxt_ } else t.unl i 6 (t.bucket (t.hash i))
theorem Tb.unl_end {t : Tb} {i : Int} {n : Nat} {j : Int} (h : j = -1 ∨ 6 ≤ n) : t.unl i (6 - n) j = t := by
  by_cases hn : 6 ≤ n
  · have : 6 - n = 0 := by omega
    rw [this]; rfl
  · obtain ⟨f, hf⟩ : ∃ f, 6 - n = f + 1 := ⟨6 - n - 1, by omega⟩
    rw [hf]; unfold Tb.unl; rw [if_pos (by omega)]
theorem Tb.unl_hit {t : Tb} {i : Int} {n : Nat} {j : Int} (hn : n < 6) (hj : ¬ j = -1) (h : (t.rows j.toNat).nxt_ = i) : t.unl i (6 - n) j = { t with rows := upA t.rows j.toNat { (t.rows j.toNat) with nxt_ := (t.rows i.toNat).nxt_ } } := by
  obtain ⟨f, hf⟩ : ∃ f, 6 - n = f + 1 := ⟨6 - n - 1, by omega⟩
  rw [hf]; unfold Tb.unl; rw [if_neg hj, if_pos h]
theorem Tb.unl_next {t : Tb} {i : Int} {n : Nat} {j : Int} (hn : n < 6) (hj : ¬ j = -1) (h : ¬ (t.rows j.toNat).nxt_ = i) : t.unl i (6 - n) j = t.unl i (6 - (n + 1)) (t.rows j.toNat).nxt_ := by
  obtain ⟨f, hf⟩ : ∃ f, 6 - n = f + 1 := ⟨6 - n - 1, by omega⟩
  have : 6 - (n + 1) = f := by omega
  rw [hf, this]; conv => lhs; unfold Tb.unl
  rw [if_neg hj, if_neg h]
theorem Tb.ok_unl {t : Tb} (ok : t.Ok) (i : Int) : ∀ (f : Nat) (j : Int), (t.unl i f j).Ok
  | 0, _ => ok
  | f + 1, j => by
    unfold Tb.unl; split
    · exact ok
    · split
      · have r := ok.row j.toNat
        exact Tb.ok_rows ok _ ⟨ok.nxt _, r.ent, r.kids, r.head, r.n⟩
      · exact Tb.ok_unl ok i f _
theorem Tb.ok_unlink {t : Tb} (ok : t.Ok) (i : Int) : (t.unlink i).Ok := by
  unfold Tb.unlink; split
  · exact ⟨ok.free, ok.nxt, fun j => by unfold upA; dsimp only; split <;> first | exact ok.nxt _ | exact ok.buck j, ok.port, ok.blocks, ok.ent, ok.kids, ok.head, ok.n, ok.lis, ok.next, ok.eph⟩
  · exact Tb.ok_unl ok i 6 _
def Tb.chain (t : Tb) (a b c : Int) : Nat → Int → Int
  | 0, _ => 0
  | f + 1, j => if j = -1 then 0 else if (t.rows j.toNat).e.lPort = a ∧ (t.rows j.toNat).e.rHost = b ∧ (t.rows j.toNat).e.rPort = c then (t.rows j.toNat).e.sd else t.chain a b c f (t.rows j.toNat).nxt_
def Tb.lookup (t : Tb) (a b c : Int) : Int := t.chain a b c 6 (t.bucket (hashF a b c))
theorem Tb.chain_end {t : Tb} {a b c : Int} {n : Nat} {j : Int} (h : j = -1 ∨ 6 ≤ n) : t.chain a b c (6 - n) j = 0 := by
  by_cases hn : 6 ≤ n
  · have : 6 - n = 0 := by omega
    rw [this]; rfl
  · obtain ⟨f, hf⟩ : ∃ f, 6 - n = f + 1 := ⟨6 - n - 1, by omega⟩
    rw [hf]; unfold Tb.chain; rw [if_pos (by omega)]
theorem Tb.chain_hit {t : Tb} {a b c : Int} {n : Nat} {j : Int} (hn : n < 6) (hj : ¬ j = -1) (h : (t.rows j.toNat).e.lPort = a ∧ (t.rows j.toNat).e.rHost = b ∧ (t.rows j.toNat).e.rPort = c) : t.chain a b c (6 - n) j = (t.rows j.toNat).e.sd := by
  obtain ⟨f, hf⟩ : ∃ f, 6 - n = f + 1 := ⟨6 - n - 1, by omega⟩
  rw [hf]; unfold Tb.chain; rw [if_neg hj, if_pos h]
theorem Tb.chain_next {t : Tb} {a b c : Int} {n : Nat} {j : Int} (hn : n < 6) (hj : ¬ j = -1) (h : ¬ ((t.rows j.toNat).e.lPort = a ∧ (t.rows j.toNat).e.rHost = b ∧ (t.rows j.toNat).e.rPort = c)) : t.chain a b c (6 - n) j = t.chain a b c (6 - (n + 1)) (t.rows j.toNat).nxt_ := by
  obtain ⟨f, hf⟩ : ∃ f, 6 - n = f + 1 := ⟨6 - n - 1, by omega⟩
  have : 6 - (n + 1) = f := by omega
  rw [hf, this]; conv => lhs; unfold Tb.chain
  rw [if_neg hj, if_neg h]
def Tb.connT (t : Tb) (lp rh rp slot parent : Int) : Tb :=
  { t.takeT with nextSd := t.takeT.nextSd + 1, rows := upA t.takeT.rows t.free.toNat { (t.takeT.rows t.free.toNat) with e := { sd := t.takeT.nextSd, kind := 2, lPort := lp, rHost := rh, rPort := rp, slot := slot, parent := parent, ready := false } }, blocks := ((t.takeT.blocks.toNat ||| 2 ^ slot.toNat : Nat) : Int) }
def Tb.conn (t : Tb) (lp rh rp slot parent : Int) : Int × Tb :=
  if t.free = -1 then (0, t.takeT) else (t.takeT.nextSd, (t.connT lp rh rp slot parent).link t.free)
def Tb.enqueue (t : Tb) (l sd : Int) : Tb :=
  { t with rows := upA t.rows l.toNat { (t.rows l.toNat) with ring := upA (t.rows l.toNat).ring (wrapF ((t.rows l.toNat).head + (t.rows l.toNat).n)).toNat sd, n := (t.rows l.toNat).n + 1 } }
def Tb.dequeue (t : Tb) (l : Int) : Int × Tb :=
  ((t.rows l.toNat).ring (t.rows l.toNat).head.toNat, { t with rows := upA t.rows l.toNat { (t.rows l.toNat) with head := wrapF ((t.rows l.toNat).head + 1), n := (t.rows l.toNat).n - 1 } })
def Rw.leave (r : Rw) (sd : Int) : Rw :=
  if r.n ≤ 0 then r
  else if r.ring (wrapF (r.head + 0)).toNat = sd then
    (if 1 < r.n then { r with ring := upA r.ring (wrapF (r.head + 0)).toNat (r.ring (wrapF (r.head + 0 + 1)).toNat), n := r.n - 1 } else { r with n := r.n - 1 })
  else if r.n ≤ 1 then r
  else if r.ring (wrapF (r.head + (0 + 1))).toNat = sd then { r with n := r.n - 1 } else r
def Tb.leave (t : Tb) (l sd : Int) : Tb := { t with rows := upA t.rows l.toNat ((t.rows l.toNat).leave sd) }
theorem Tb.leave_no {t : Tb} {l sd : Int} (h : (t.rows l.toNat).leave sd = t.rows l.toNat) : t.leave l sd = t := by
  unfold Tb.leave; rw [upA_same _ _ _ h]
def Tb.orphan (t : Tb) (i : Int) : Tb :=
  if (t.rows i.toNat).e.parent = 0 then t
  else if t.lrow (t.rows i.toNat).e.lPort = -1 then t
  else
    if (t.rows i.toNat).e.ready = true then Tb.leave { t with rows := upA t.rows (t.lrow (t.rows i.toNat).e.lPort).toNat { (t.rows (t.lrow (t.rows i.toNat).e.lPort).toNat) with kids := (t.rows (t.lrow (t.rows i.toNat).e.lPort).toNat).kids - 1 } } (t.lrow (t.rows i.toNat).e.lPort) (t.rows i.toNat).e.sd
    else { t with rows := upA t.rows (t.lrow (t.rows i.toNat).e.lPort).toNat { (t.rows (t.lrow (t.rows i.toNat).e.lPort).toNat) with kids := (t.rows (t.lrow (t.rows i.toNat).e.lPort).toNat).kids - 1 } }
theorem wrapF_b {k : Int} (h : 0 ≤ k ∧ k < 4) : 0 ≤ wrapF k ∧ wrapF k < 2 := by unfold wrapF; split <;> omega
theorem Tb.lrow_b {t : Tb} (ok : t.Ok) (p : Int) : -1 ≤ t.lrow p ∧ t.lrow p < 6 := by
  unfold Tb.lrow; split
  · omega
  · exact ok.port _
theorem or_blk {h : Int} {i : Int} (hb : 0 ≤ h ∧ h < 256) (hi : 0 ≤ i ∧ i < 4) : bOr .u8 h ((2 ^ i.toNat : Nat) : Int) = ((h.toNat ||| 2 ^ i.toNat : Nat) : Int) := by
  have h1 : (2 ^ i.toNat) < 256 := Nat.lt_of_lt_of_le (Nat.pow_lt_pow_right (by omega) (show i.toNat < 4 by omega)) (by decide)
  rw [bOr_nat (f8 hb) (f8 ⟨Int.natCast_nonneg _, Int.ofNat_lt.2 h1⟩), Int.toNat_natCast]
theorem or_blk_b {h : Int} {i : Int} (hb : 0 ≤ h ∧ h < 256) (hi : 0 ≤ i ∧ i < 4) : 0 ≤ ((h.toNat ||| 2 ^ i.toNat : Nat) : Int) ∧ ((h.toNat ||| 2 ^ i.toNat : Nat) : Int) < 256 := by
  have h1 : (2 ^ i.toNat) < 2 ^ 8 := Nat.lt_of_lt_of_le (Nat.pow_lt_pow_right (by omega) (show i.toNat < 4 by omega)) (by decide)
  have h2 : h.toNat ||| 2 ^ i.toNat < 2 ^ 8 := Nat.or_lt_two_pow (by omega) h1
  omega
theorem Tb.take_b {t : Tb} (ok : t.Ok) : -1 ≤ t.free ∧ t.free < 6 := ok.free
theorem Tb.take_next (t : Tb) : t.takeT.nextSd = t.nextSd := by unfold Tb.takeT; split <;> rfl
theorem Tb.ok_connT {t : Tb} (ok : t.Ok) {lp rh rp slot parent : Int} (h1 : 0 ≤ lp ∧ lp < 16) (h2 : 0 ≤ rh ∧ rh < 256) (h3 : 0 ≤ rp ∧ rp < 16) (h4 : 0 ≤ slot ∧ slot < 4) (h5 : t.nextSd < 1152921504606846976) : (t.connT lp rh rp slot parent).Ok := by
  have k := Tb.ok_take ok
  have r := k.row t.free.toNat
  have h := Tb.ok_rows k t.free.toNat (r := { (t.takeT.rows t.free.toNat) with e := { sd := t.takeT.nextSd, kind := 2, lPort := lp, rHost := rh, rPort := rp, slot := slot, parent := parent, ready := false } }) ⟨r.nxt, ⟨h1, h2, h3, ⟨by dsimp only; omega, by dsimp only; omega⟩⟩, r.kids, r.head, r.n⟩
  have e := Tb.take_next t
  have k11 := k.next
  exact ⟨h.free, h.nxt, h.buck, h.port, or_blk_b k.blocks h4, h.ent, h.kids, h.head, h.n, h.lis, ⟨by simp only [Tb.connT]; omega, by simp only [Tb.connT]; omega⟩, h.eph⟩
theorem Tb.ok_conn {t : Tb} (ok : t.Ok) {lp rh rp slot parent : Int} (h1 : 0 ≤ lp ∧ lp < 16) (h2 : 0 ≤ rh ∧ rh < 256) (h3 : 0 ≤ rp ∧ rp < 16) (h4 : 0 ≤ slot ∧ slot < 4) (h5 : t.nextSd < 1152921504606846976) : (t.conn lp rh rp slot parent).2.Ok := by
  have k := Tb.take_b ok
  unfold Tb.conn; split
  · exact Tb.ok_take ok
  · exact Tb.ok_link (Tb.ok_connT ok h1 h2 h3 h4 h5) (by omega)
theorem Tb.ok_unlinkd {t : Tb} (ok : t.Ok) (i : Int) : (t.unlink i).Ok := Tb.ok_unlink ok i
theorem Rw.ok_leave {r : Rw} (ok : r.Ok) (sd : Int) : (r.leave sd).Ok := by
  have h := ok.n
  unfold Rw.leave
  repeat' split
  all_goals first
    | exact ok
    | exact ⟨ok.nxt, ok.ent, ok.kids, ok.head, by dsimp only; omega⟩
theorem Tb.ok_leave {t : Tb} (ok : t.Ok) (l sd : Int) : (t.leave l sd).Ok := Tb.ok_rows ok _ (Rw.ok_leave (ok.row _) sd)
/-- the block's bit falls -/
def clrBlk (h : Int) (s : Int) : Int := ((h.toNat &&& (255 - 2 ^ s.toNat) : Nat) : Int)
theorem clr_blk {h s : Int} (hb : 0 ≤ h ∧ h < 256) (hs : 0 ≤ s ∧ s < 4) : bAnd .u8 h (255 - ((2 ^ s.toNat : Nat) : Int)) = clrBlk h s := by
  have h1 : (2 ^ s.toNat) ≤ 2 ^ 3 := Nat.pow_le_pow_right (by omega) (by omega)
  have h2 : 0 < 2 ^ s.toNat := Nat.two_pow_pos _
  have e : (255 - ((2 ^ s.toNat : Nat) : Int)) = ((255 - 2 ^ s.toNat : Nat) : Int) := by omega
  rw [e, bAnd_nat (f8 hb) (f8 (by omega)), Int.toNat_natCast]; rfl
theorem clrBlk_b {h : Int} (s : Int) (hb : 0 ≤ h ∧ h < 256) : 0 ≤ clrBlk h s ∧ clrBlk h s < 256 := by
  have : h.toNat &&& (255 - 2 ^ s.toNat) ≤ h.toNat := Nat.and_le_left
  unfold clrBlk; omega
def Tb.kidsTo (t : Tb) (sd : Int) (k : Nat) : Tb :=
  { t with rows := fun j => if j < k ∧ (t.rows j).used = true ∧ (t.rows j).e.parent = sd then { (t.rows j) with e := { (t.rows j).e with parent := 0, ready := false } } else t.rows j }
def Tb.freeL (t : Tb) (i sd : Int) : Tb := Tb.kidsTo { t with port := upA t.port (t.rows i.toNat).e.lPort.toNat (-1), listeners := t.listeners - 1 } sd 6
def Tb.freeC (t : Tb) (i : Int) : Tb := Tb.orphan { t.unlink i with blocks := clrBlk (t.unlink i).blocks ((t.unlink i).rows i.toNat).e.slot } i
def Tb.freeT (t : Tb) (i sd : Int) : Tb := if (t.rows i.toNat).e.kind = 1 then t.freeL i sd else t.freeC i
def Tb.freeSd (t : Tb) (sd : Int) : Int × Tb := if t.find sd = -1 then (21, t) else (0, (t.freeT (t.find sd) sd).give (t.find sd))
theorem Tb.kidsTo_zero (t : Tb) (sd : Int) : t.kidsTo sd 0 = t := by
  simp [Tb.kidsTo]
theorem Tb.kidsTo_at (t : Tb) (sd : Int) (k : Nat) : (t.kidsTo sd k).rows k = t.rows k := by simp [Tb.kidsTo]
theorem Tb.kidsTo_no {t : Tb} {sd : Int} {k : Nat} (h : ¬ (((t.kidsTo sd k).rows k).used = true ∧ ((t.kidsTo sd k).rows k).e.parent = sd)) : t.kidsTo sd (k + 1) = t.kidsTo sd k := by
  rw [Tb.kidsTo_at] at h
  simp only [Tb.kidsTo]
  congr 1
  funext j
  by_cases hj : j = k
  · subst hj; rw [if_neg (by rintro ⟨_, z⟩; exact h z), if_neg (by omega)]
  · by_cases h2 : j < k ∧ (t.rows j).used = true ∧ (t.rows j).e.parent = sd
    · rw [if_pos h2, if_pos ⟨by omega, h2.2⟩]
    · rw [if_neg h2, if_neg (by rintro ⟨a, z⟩; exact h2 ⟨by omega, z⟩)]
theorem Tb.kidsTo_yes {t X : Tb} {sd : Int} {k : Nat} (h : ((t.kidsTo sd k).rows k).used = true ∧ ((t.kidsTo sd k).rows k).e.parent = sd)
    (hX : X = { t.kidsTo sd k with rows := upA (t.kidsTo sd k).rows k { ((t.kidsTo sd k).rows k) with e := { ((t.kidsTo sd k).rows k).e with parent := 0 } } }) :
    t.kidsTo sd (k + 1) = { X with rows := upA X.rows k { (X.rows k) with e := { (X.rows k).e with ready := false } } } := by
  subst hX
  dsimp only
  rw [upA_upA, upA_at]
  rw [Tb.kidsTo_at] at *
  simp only [Tb.kidsTo]
  congr 1
  funext j
  simp only [upA]
  by_cases hj : j = k
  · subst hj; rw [if_pos ⟨by omega, h⟩, if_pos rfl]
  · rw [if_neg hj]
    by_cases h2 : j < k ∧ (t.rows j).used = true ∧ (t.rows j).e.parent = sd
    · rw [if_pos h2, if_pos ⟨by omega, h2.2⟩]
    · rw [if_neg h2, if_neg (by rintro ⟨a, z⟩; exact h2 ⟨by omega, z⟩)]
theorem Tb.ok_kidsTo {t : Tb} (ok : t.Ok) (sd : Int) (k : Nat) : (t.kidsTo sd k).Ok := by
  refine ⟨ok.free, ?_, ok.buck, ok.port, ok.blocks, ?_, ?_, ?_, ?_, ok.lis, ok.next, ok.eph⟩ <;> intro j <;> unfold Tb.kidsTo <;> dsimp only <;> split
  all_goals first
    | exact ok.nxt j
    | exact ok.kids j
    | exact ok.head j
    | exact ok.n j
    | exact ok.ent j
    | exact ⟨(ok.ent j).lp, (ok.ent j).rh, (ok.ent j).rp, (ok.ent j).slot⟩
theorem Tb.find_b (t : Tb) (sd : Int) : -1 ≤ t.find sd ∧ t.find sd < 6 := by
  unfold Tb.find
  have : ∀ (P : Nat → Bool) (f i : Nat), -1 ≤ firstI P f i ∧ firstI P f i < (i : Int) + f ∨ firstI P f i = -1 := by
    intro P f
    induction f with
    | zero => intro i; right; rfl
    | succ f ih =>
      intro i; unfold firstI; split
      · left; omega
      · rcases ih (i + 1) with h | h
        · left; omega
        · right; exact h
  rcases this (t.isSd sd) 6 0 with h | h <;> omega
theorem Tb.low_b (t : Tb) : -1 ≤ t.low ∧ t.low < 4 := by
  unfold Tb.low firstI firstI firstI firstI firstI
  repeat' split
  all_goals omega
def Tb.listenT (t : Tb) (p : Int) : Tb :=
  { t.takeT with nextSd := t.takeT.nextSd + 1, rows := upA t.takeT.rows t.free.toNat { (t.takeT.rows t.free.toNat) with e := { sd := t.takeT.nextSd, kind := 1, lPort := p, rHost := 0, rPort := 0, slot := -1, parent := 0, ready := false } }, port := upA t.takeT.port p.toNat t.free, listeners := t.takeT.listeners + 1 }
def Tb.listen (t : Tb) (p : Int) : Int × Int × Tb :=
  if p < 1 ∨ 8 ≤ p then (0, 22, t) else if ¬ t.port p.toNat = -1 then (0, 23, t) else if 2 ≤ t.listeners then (0, 11, t)
  else if t.free = -1 then (0, 11, t.takeT) else (t.takeT.nextSd, 0, t.listenT p)
def Tb.eph8 (t : Tb) (rh rp : Int) : Nat → Int → Int
  | 0, p => p
  | f + 1, p => if t.lookup p rh rp = 0 then p else t.eph8 rh rp f (nextEph p)
theorem Tb.eph8_end {t : Tb} {rh rp p : Int} {n : Nat} (h : t.lookup p rh rp = 0 ∨ 8 ≤ n) : t.eph8 rh rp (8 - n) p = p := by
  by_cases hn : 8 ≤ n
  · have : 8 - n = 0 := by omega
    rw [this]; rfl
  · obtain ⟨f, hf⟩ : ∃ f, 8 - n = f + 1 := ⟨8 - n - 1, by omega⟩
    rw [hf]; unfold Tb.eph8; rw [if_pos (by omega)]
theorem Tb.eph8_next {t : Tb} {rh rp p : Int} {n : Nat} (hn : n < 8) (h : ¬ t.lookup p rh rp = 0) : t.eph8 rh rp (8 - n) p = t.eph8 rh rp (8 - (n + 1)) (nextEph p) := by
  obtain ⟨f, hf⟩ : ∃ f, 8 - n = f + 1 := ⟨8 - n - 1, by omega⟩
  have : 8 - (n + 1) = f := by omega
  rw [hf, this]; conv => lhs; unfold Tb.eph8
  rw [if_neg h]
theorem nextEph_b {p : Int} (h : 8 ≤ p ∧ p ≤ 15) : 8 ≤ nextEph p ∧ nextEph p ≤ 15 := by unfold nextEph; split <;> omega
theorem Tb.eph8_b (t : Tb) (rh rp : Int) : ∀ (f : Nat) (p : Int), (8 ≤ p ∧ p ≤ 15) → 8 ≤ t.eph8 rh rp f p ∧ t.eph8 rh rp f p ≤ 15
  | 0, p, h => h
  | f + 1, p, h => by
    unfold Tb.eph8; split
    · exact h
    · exact Tb.eph8_b t rh rp f _ (nextEph_b h)
def Tb.connP (t : Tb) (rh rp : Int) : Int := t.eph8 rh rp 8 t.eph
def Tb.connect (t : Tb) (rh rp : Int) : Int × Int × Tb :=
  if rh < 1 ∨ 255 < rh then (0, 5, t) else if rp < 1 ∨ 15 < rp then (0, 22, t) else if t.low = -1 then (0, 11, t)
  else if (t.conn (t.connP rh rp) rh rp t.low 0).1 = 0 then (0, 11, (t.conn (t.connP rh rp) rh rp t.low 0).2)
  else ((t.conn (t.connP rh rp) rh rp t.low 0).1, 0, { (t.conn (t.connP rh rp) rh rp t.low 0).2 with eph := nextEph (t.connP rh rp) })
def Tb.childT (t : Tb) (l : Int) : Tb := { t with rows := upA t.rows l.toNat { (t.rows l.toNat) with kids := (t.rows l.toNat).kids + 1 } }
def Tb.child (t : Tb) (lp rh rp : Int) : Int × Int × Tb :=
  if t.lrow lp = -1 then (0, 21, t) else if rh < 1 ∨ 255 < rh then (0, 5, t) else if rp < 1 ∨ 15 < rp then (0, 22, t) else if ¬ t.lookup lp rh rp = 0 then (0, 23, t)
  else if 2 ≤ (t.rows (t.lrow lp).toNat).kids ∨ t.low = -1 then (0, 11, t)
  else if (t.conn lp rh rp t.low (t.rows (t.lrow lp).toNat).e.sd).1 = 0 then (0, 11, (t.conn lp rh rp t.low (t.rows (t.lrow lp).toNat).e.sd).2)
  else ((t.conn lp rh rp t.low (t.rows (t.lrow lp).toNat).e.sd).1, 0, (t.conn lp rh rp t.low (t.rows (t.lrow lp).toNat).e.sd).2.childT (t.lrow lp))
def Tb.setReady (t : Tb) (i : Int) : Tb := { t with rows := upA t.rows i.toNat { (t.rows i.toNat) with e := { (t.rows i.toNat).e with ready := true } } }
def Tb.ready (t : Tb) (sd : Int) : Int × Tb :=
  if t.find sd = -1 ∨ (t.rows (t.find sd).toNat).e.parent = 0 then (21, t) else if (t.rows (t.find sd).toNat).e.ready = true then (13, t)
  else if t.lrow (t.rows (t.find sd).toNat).e.lPort = -1 then (21, t) else (0, (t.setReady (t.find sd)).enqueue (t.lrow (t.rows (t.find sd).toNat).e.lPort) sd)
def Tb.lessKid (t : Tb) (l : Int) : Tb := { t with rows := upA t.rows l.toNat { (t.rows l.toNat) with kids := (t.rows l.toNat).kids - 1 } }
def Tb.own (t : Tb) (i : Int) : Tb := { t with rows := upA t.rows i.toNat { (t.rows i.toNat) with e := { (t.rows i.toNat).e with parent := 0, ready := false } } }
def Tb.accept (t : Tb) (lsd : Int) : Int × Int × Tb :=
  if t.find lsd = -1 ∨ ¬ (t.rows (t.find lsd).toNat).e.kind = 1 then (0, 21, t) else if (t.rows (t.find lsd).toNat).n = 0 then (0, 14, t)
  else if ((t.dequeue (t.find lsd)).2.lessKid (t.find lsd)).find (t.dequeue (t.find lsd)).1 = -1 then ((t.dequeue (t.find lsd)).1, 0, (t.dequeue (t.find lsd)).2.lessKid (t.find lsd))
  else ((t.dequeue (t.find lsd)).1, 0, ((t.dequeue (t.find lsd)).2.lessKid (t.find lsd)).own (((t.dequeue (t.find lsd)).2.lessKid (t.find lsd)).find (t.dequeue (t.find lsd)).1))
def Tb.lis (t : Tb) (p : Int) : Int := if t.lrow p = -1 then 0 else (t.rows (t.lrow p).toNat).e.sd
def Tb.get (t : Tb) (sd : Int) : En × Int := if t.find sd = -1 then (En.zero, 21) else ((t.rows (t.find sd).toNat).e, 0)
def Tb.iA (k : Nat) : Tb := { rows := fun i => { Rw.zero with nxt_ := if i < k then (i : Int) + 1 else 0 }, free := 0, bucket := fun _ => 0, port := fun _ => 0, blocks := 0, listeners := 0, nextSd := 1, eph := 8 }
def Tb.iB (k : Nat) : Tb := { rows := fun i => { Rw.zero with nxt_ := if i < 5 then (i : Int) + 1 else if i = 5 then -1 else 0 }, free := 0, bucket := fun i => if i < k then -1 else 0, port := fun _ => 0, blocks := 0, listeners := 0, nextSd := 1, eph := 8 }
def Tb.iC (k : Nat) : Tb := { Tb.iB 4 with port := fun i => if i < k then -1 else 0 }
def Tb.init : Tb := Tb.iC 8
theorem Tb.iA_zero : Tb.iA 0 = { Tb.zero with free := 0, nextSd := 1, eph := 8 } := by
  simp [Tb.iA, Tb.zero, Rw.zero]
theorem Tb.iA_succ (k : Nat) : Tb.iA (k + 1) = { Tb.iA k with rows := upA (Tb.iA k).rows k { ((Tb.iA k).rows k) with nxt_ := (k : Int) + 1 } } := by
  simp only [Tb.iA]
  congr 1
  funext i
  simp only [upA]
  by_cases h : i = k
  · subst h; rw [if_pos (by omega), if_pos rfl]
  · rw [if_neg h]
    by_cases h2 : i < k
    · rw [if_pos (by omega), if_pos h2]
    · rw [if_neg (by omega), if_neg h2]
theorem Tb.iB_zero : Tb.iB 0 = { Tb.iA 6 with rows := upA (Tb.iA 6).rows 5 { ((Tb.iA 6).rows 5) with nxt_ := -1 } } := by
  simp only [Tb.iB, Tb.iA]
  congr 1
  funext i
  simp only [upA]
  by_cases h : i = 5
  · subst h; rw [if_neg (by omega), if_pos rfl, if_pos rfl]
  · rw [if_neg h, if_neg h]
    by_cases h2 : i < 5
    · rw [if_pos (by omega), if_pos (by omega)]
    · rw [if_neg (by omega), if_neg (by omega)]
theorem Tb.iB_succ (k : Nat) : Tb.iB (k + 1) = { Tb.iB k with bucket := upA (Tb.iB k).bucket k (-1) } := by
  simp only [Tb.iB]
  congr 1
  funext i
  simp only [upA]
  by_cases h : i = k
  · subst h; rw [if_pos (by omega), if_pos rfl]
  · rw [if_neg h]
    by_cases h2 : i < k
    · rw [if_pos (by omega), if_pos h2]
    · rw [if_neg (by omega), if_neg h2]
theorem Tb.iC_zero : Tb.iC 0 = Tb.iB 4 := by simp [Tb.iC, Tb.iB]
theorem Tb.iC_succ (k : Nat) : Tb.iC (k + 1) = { Tb.iC k with port := upA (Tb.iC k).port k (-1) } := by
  simp only [Tb.iC]
  congr 1
  funext i
  simp only [upA]
  by_cases h : i = k
  · subst h; rw [if_pos (by omega), if_pos rfl]
  · rw [if_neg h]
    by_cases h2 : i < k
    · rw [if_pos (by omega), if_pos h2]
    · rw [if_neg (by omega), if_neg h2]
theorem Tb.ok_kid {t : Tb} (ok : t.Ok) (l : Int) (h : -1000 ≤ (t.rows l.toNat).kids - 1) : Tb.Ok { t with rows := upA t.rows l.toNat { (t.rows l.toNat) with kids := (t.rows l.toNat).kids - 1 } } := by
  have r := ok.row l.toNat
  have k := r.kids
  exact Tb.ok_rows ok _ ⟨r.nxt, r.ent, ⟨by dsimp only; omega, by dsimp only; omega⟩, r.head, r.n⟩
theorem upA_e (f : Nat → Rw) (l j : Nat) (k : Int) : (upA f l { (f l) with kids := k } j).e = (f j).e := by
  unfold upA; split
  · rename_i h; rw [h]
  · rfl
theorem Tb.ok_enqueue {t : Tb} (ok : t.Ok) (l sd : Int) (h : (t.rows l.toNat).n < 2) : (t.enqueue l sd).Ok := by
  have r := ok.row l.toNat
  have k := r.n
  exact Tb.ok_rows ok _ ⟨r.nxt, r.ent, r.kids, r.head, ⟨by dsimp only; omega, by dsimp only; omega⟩⟩
theorem Tb.ok_dequeue {t : Tb} (ok : t.Ok) (l : Int) (h : 0 < (t.rows l.toNat).n) : (t.dequeue l).2.Ok := by
  have r := ok.row l.toNat
  have k := r.n
  have k2 := r.head
  exact Tb.ok_rows ok _ ⟨r.nxt, r.ent, r.kids, wrapF_b (by omega), ⟨by dsimp only; omega, by dsimp only; omega⟩⟩
theorem Tb.ok_orphan {t : Tb} (ok : t.Ok) (i : Int) (h : ∀ j, -999 ≤ (t.rows j).kids) : (t.orphan i).Ok := by
  have k := Tb.ok_kid ok (t.lrow (t.rows i.toNat).e.lPort) (by have := h (t.lrow (t.rows i.toNat).e.lPort).toNat; omega)
  unfold Tb.orphan
  split
  · exact ok
  · split
    · exact ok
    · split
      · exact Tb.ok_leave k _ _
      · exact k
theorem Tb.unl_row {t : Tb} {i : Int} : ∀ (f : Nat) (j : Int) (k : Nat), ((t.unl i f j).rows k).e = (t.rows k).e ∧ ((t.unl i f j).rows k).kids = (t.rows k).kids
  | 0, _, _ => ⟨rfl, rfl⟩
  | f + 1, j, k => by
    unfold Tb.unl; split
    · exact ⟨rfl, rfl⟩
    · split
      · dsimp only; unfold upA; split
        · rename_i h; subst h; exact ⟨rfl, rfl⟩
        · exact ⟨rfl, rfl⟩
      · exact Tb.unl_row f _ k
theorem Tb.unlink_row {t : Tb} {i : Int} (k : Nat) : ((t.unlink i).rows k).e = (t.rows k).e ∧ ((t.unlink i).rows k).kids = (t.rows k).kids := by
  unfold Tb.unlink; split
  · exact ⟨rfl, rfl⟩
  · exact Tb.unl_row 6 _ k
theorem Tb.ok_blocks {t : Tb} (ok : t.Ok) {x : Int} (h : 0 ≤ x ∧ x < 256) : Tb.Ok { t with blocks := x } := ⟨ok.free, ok.nxt, ok.buck, ok.port, h, ok.ent, ok.kids, ok.head, ok.n, ok.lis, ok.next, ok.eph⟩
theorem Tb.ok_port {t : Tb} (ok : t.Ok) (p : Nat) {x y : Int} (h : -1 ≤ x ∧ x < 6) (h2 : -1000 ≤ y ∧ y ≤ 1000) : Tb.Ok { t with port := upA t.port p x, listeners := y } :=
  ⟨ok.free, ok.nxt, ok.buck, fun j => by unfold upA; dsimp only; split <;> first | exact h | exact ok.port j, ok.blocks, ok.ent, ok.kids, ok.head, ok.n, h2, ok.next, ok.eph⟩
theorem pow8 {s : Int} (h : 0 ≤ s ∧ s < 8) : 0 ≤ ((2 ^ s.toNat : Nat) : Int) ∧ ((2 ^ s.toNat : Nat) : Int) < 256 := by
  have h1 : (2 ^ s.toNat) ≤ 2 ^ 7 := Nat.pow_le_pow_right (by omega) (by omega)
  generalize 2 ^ s.toNat = n at *
  omega
theorem Tb.take_lis (t : Tb) : t.takeT.listeners = t.listeners := by unfold Tb.takeT; split <;> rfl
theorem Tb.ok_listenT {t : Tb} (ok : t.Ok) {p : Int} (h1 : 0 ≤ p ∧ p < 16) (h5 : t.nextSd < 1152921504606846976) (hl : t.listeners < 1000) : (t.listenT p).Ok := by
  have k := Tb.ok_take ok
  have r := k.row t.free.toNat
  have h := Tb.ok_rows k t.free.toNat (r := { (t.takeT.rows t.free.toNat) with e := { sd := t.takeT.nextSd, kind := 1, lPort := p, rHost := 0, rPort := 0, slot := -1, parent := 0, ready := false } }) ⟨r.nxt, ⟨h1, (by decide : 0 ≤ (0 : Int) ∧ (0 : Int) < 256), (by decide : 0 ≤ (0 : Int) ∧ (0 : Int) < 16), (by decide : -1 ≤ (-1 : Int) ∧ (-1 : Int) < 4)⟩, r.kids, r.head, r.n⟩
  have e := Tb.take_next t
  have e2 := Tb.take_lis t
  have k11 := k.next
  have k12 := k.lis
  have g := Tb.ok_port h p.toNat (x := t.free) (y := t.takeT.listeners + 1) ok.free (by omega)
  exact ⟨g.free, g.nxt, g.buck, g.port, g.blocks, g.ent, g.kids, g.head, g.n, g.lis, ⟨by simp only [Tb.listenT]; omega, by simp only [Tb.listenT]; omega⟩, g.eph⟩
theorem Tb.ok_eph {t : Tb} (ok : t.Ok) {x : Int} (h : 8 ≤ x ∧ x ≤ 15) : Tb.Ok { t with eph := x } := ⟨ok.free, ok.nxt, ok.buck, ok.port, ok.blocks, ok.ent, ok.kids, ok.head, ok.n, ok.lis, ok.next, h⟩
theorem Tb.ok_kidp {t : Tb} (ok : t.Ok) (l : Int) (h : (t.rows l.toNat).kids < 1000) : (t.childT l).Ok := by
  have r := ok.row l.toNat
  have k := r.kids
  exact Tb.ok_rows ok _ ⟨r.nxt, r.ent, ⟨by dsimp only; omega, by dsimp only; omega⟩, r.head, r.n⟩
theorem Tb.lrow_lt {t : Tb} {p : Int} (h : ¬ t.lrow p = -1) : 1 ≤ p ∧ p < 8 := by
  unfold Tb.lrow at h; split at h
  · exact absurd rfl h
  · omega
theorem Tb.conn_kids {t : Tb} {lp rh rp slot parent l : Int} (h : ¬ (t.conn lp rh rp slot parent).1 = 0) (h0 : -1 ≤ t.free) (hf : ¬ t.free = l) (hl : 0 ≤ l) : ((t.conn lp rh rp slot parent).2.rows l.toNat).kids = (t.rows l.toNat).kids := by
  unfold Tb.conn at *
  split at h
  · exact absurd rfl h
  · rename_i hne
    rw [if_neg hne]
    have e1 : ∀ (u : Tb) (i : Int), ((u.link i).rows l.toNat).kids = (u.rows l.toNat).kids := by
      intro u i; unfold Tb.link upA; dsimp only; split
      · rename_i q; rw [q]
      · rfl
    have e2 : ((t.connT lp rh rp slot parent).rows l.toNat).kids = (t.takeT.rows l.toNat).kids := by
      unfold Tb.connT upA; dsimp only; split
      · rename_i q; rw [q]
      · rfl
    rw [e1, e2]
    unfold Tb.takeT upA; rw [if_neg hne]; dsimp only
    split
    · rename_i q; omega
    · rfl
theorem Tb.ok_setReady {t : Tb} (ok : t.Ok) (i : Int) : (t.setReady i).Ok := by
  have r := ok.row i.toNat
  exact Tb.ok_rows ok _ ⟨r.nxt, ⟨r.ent.lp, r.ent.rh, r.ent.rp, r.ent.slot⟩, r.kids, r.head, r.n⟩
theorem Tb.setReady_n (t : Tb) (i : Int) (k : Nat) : ((t.setReady i).rows k).n = (t.rows k).n := by
  unfold Tb.setReady upA; dsimp only; split
  · rename_i q; rw [q]
  · rfl
theorem Tb.ok_own {t : Tb} (ok : t.Ok) (i : Int) : (t.own i).Ok := by
  have r := ok.row i.toNat
  exact Tb.ok_rows ok _ ⟨r.nxt, ⟨r.ent.lp, r.ent.rh, r.ent.rp, r.ent.slot⟩, r.kids, r.head, r.n⟩
def Tb.usedTo (t : Tb) (k : Nat) : List Int := ((List.range k).filter fun i => (t.rows i).used).map fun i => (t.rows i).e.sd
theorem Tb.usedTo_yes {t : Tb} {k : Nat} (h : (t.rows k).used = true) : t.usedTo (k + 1) = t.usedTo k ++ [(t.rows k).e.sd] := by
  simp [Tb.usedTo, List.range_succ, h]
theorem Tb.usedTo_no {t : Tb} {k : Nat} (h : (t.rows k).used = false) : t.usedTo (k + 1) = t.usedTo k := by
  simp [Tb.usedTo, List.range_succ, h]
theorem Tb.usedTo_mono (t : Tb) {k m : Nat} (h : k ≤ m) : (t.usedTo k).length ≤ (t.usedTo m).length := by
  induction m with
  | zero => obtain rfl : k = 0 := by omega
            exact Nat.le_refl _
  | succ m ih =>
    rcases Nat.lt_or_ge m k with h1 | h1
    · obtain rfl : k = m + 1 := by omega
      exact Nat.le_refl _
    · refine Nat.le_trans (ih h1) ?_
      cases hu : (t.rows m).used with
      | true => rw [Tb.usedTo_yes hu]; simp
      | false => rw [Tb.usedTo_no hu]; exact Nat.le_refl _
theorem Tb.usedTo_le (t : Tb) (k : Nat) : (t.usedTo k).length ≤ k := by
  unfold Tb.usedTo
  rw [List.length_map]
  exact Nat.le_trans (List.length_filter_le _ _) (by simp)
def sink : List Int → Nat → List Int
  | l, 0 => l
  | l, j + 1 => if l.getD (j + 1) 0 < l.getD j 0 then sink ((l.set j (l.getD (j + 1) 0)).set (j + 1) (l.getD j 0)) j else l
theorem sink_len : ∀ (j : Nat) (l : List Int), (sink l j).length = l.length
  | 0, l => rfl
  | j + 1, l => by
    unfold sink; split
    · rw [sink_len j]; simp
    · rfl
theorem sink_swap {l : List Int} {j : Nat} (hj : 0 < j) (h : l.getD j 0 < l.getD (j - 1) 0) : sink l j = sink ((l.set (j - 1) (l.getD j 0)).set j (l.getD (j - 1) 0)) (j - 1) := by
  obtain ⟨k, rfl⟩ : ∃ k, j = k + 1 := ⟨j - 1, by omega⟩
  simp only [Nat.add_sub_cancel] at h ⊢
  conv => lhs; unfold sink
  rw [if_pos h]
theorem sink_stop {l : List Int} {j : Nat} (h : j = 0 ∨ ¬ l.getD j 0 < l.getD (j - 1) 0) : sink l j = l := by
  cases j with
  | zero => rfl
  | succ j =>
    rcases h with h | h
    · cases h
    · have e : j + 1 - 1 = j := by omega
      rw [e] at h
      unfold sink; rw [if_neg h]
def Tb.insTo (t : Tb) : Nat → List Int
  | 0 => List.replicate (t.usedTo 6).length 0
  | i + 1 => if (t.rows i).used = true then sink ((t.insTo i).set (t.usedTo i).length (t.rows i).e.sd) (t.usedTo i).length else t.insTo i
theorem Tb.insTo_len (t : Tb) : ∀ i, (t.insTo i).length = (t.usedTo 6).length
  | 0 => by simp [Tb.insTo]
  | i + 1 => by
    unfold Tb.insTo; split
    · rw [sink_len, List.length_set]; exact Tb.insTo_len t i
    · exact Tb.insTo_len t i
def Tb.list (t : Tb) : List Int := t.insTo 6
end Go.Proofs.Qxb6500351aGreat
