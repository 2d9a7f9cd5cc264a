/- THE PLAIN FUNCTIONS of the host, continued. No Go in sight. -/
import Derived.Test.Qxb6500351aGreatMd12
set_option linter.unusedVariables false
set_option linter.unusedSimpArgs false
namespace Go.Proofs.Qxb6500351aGreat
open Go.Eng
def Hst.ent (H : Hst) (sd : Int) : En := (H.t.get sd).1
def Hst.err (H : Hst) (sd : Int) : Int := (H.t.get sd).2
def Hst.oursB (H : Hst) (sd : Int) : Bool := decide (H.err sd = 0 ∧ (H.ent sd).kind = 2 ∧ (H.ent sd).parent = 0)
def Hst.lisB (H : Hst) (sd : Int) : Bool := decide (H.err sd = 0 ∧ (H.ent sd).kind = 1)
def Hst.infoC (H : Hst) (sd : Int) : Ci := if (H.ent sd).kind = 2 then (H.c (H.ent sd).slot.toNat).info else Ci.zero
def Hst.setC (H : Hst) (k : Int) (c : Conn) : Hst := { H with c := upA H.c k.toNat c }
theorem Hst.ok_setC {H : Hst} (ok : H.Ok) (k : Int) {c : Conn} (h : c.Ok) : (H.setC k c).Ok :=
  ⟨ok.addr, ok.clock, ok.lost, ok.p, ok.pa, fun j => by unfold Hst.setC upA; dsimp only; split; exact h; exact ok.c j, ok.t⟩
theorem Hst.ok_setT {H : Hst} (ok : H.Ok) {t : Tb} (h : t.Ok) : Hst.Ok { H with t := t } := ⟨ok.addr, ok.clock, ok.lost, ok.p, ok.pa, ok.c, h⟩
def nobody (s : Seg) : Seg :=
  if ¬ s.flags / 2 % 2 * 2 = 0 then ⟨s.dp, s.sp, s.ack, 0, 8, 0, []⟩
  else ⟨s.dp, s.sp, 0, seqAdd s.seq ((s.data.length : Int) + (if s.flags % 2 = 0 then 0 else 1) + (if s.flags / 4 % 2 * 4 = 0 then 0 else 1)), 10, 0, []⟩
theorem nobody_ok {s : Seg} (h : s.Ok) : (nobody s).Ok := by
  unfold nobody; split
  · exact ⟨h.dp, h.sp, h.ack, by dsimp only; omega, by dsimp only; omega, by dsimp only; omega, by simp, bytes_nil⟩
  · exact ⟨h.dp, h.sp, by dsimp only; omega, seqAdd_b _ _, by dsimp only; omega, by dsimp only; omega, by simp, bytes_nil⟩
theorem Tb.get_ok {t : Tb} (ok : t.Ok) (sd : Int) : (t.get sd).1.Ok := by
  unfold Tb.get; split
  · exact En.ok_zero
  · exact ok.ent _
theorem fill_Si (e : En) : fillE [(0, 8), (8, 1)] Si.zero.enc [(0, .agg e.enc)] = some (Si.enc (Si.mk e (.pointer none))) := by kernel_rfl
theorem Conn.pumpE_len (c : Conn) : c.pumpE.2.length ≤ 1 := by unfold Conn.pumpE; split <;> simp
theorem Conn.pump_len' {c : Conn} (h : c.x.credit ≤ 12) : c.pump.2.length ≤ 13 := by
  unfold Conn.pump; split
  · have k := Conn.pumpF_len c.x.credit.toNat c
    have k2 := Conn.pumpE_len c.pumpL.1
    rw [List.length_append]
    unfold Conn.pumpL at *
    omega
  · exact Nat.zero_le _
theorem Conn.inData_len (c : Conn) (s : Seg) : (c.inData s).2.length ≤ 1 := by unfold Conn.inData; split <;> simp
theorem Conn.inAck_len {c : Conn} (h : c.Ok) {s : Seg} (hs : s.Ok) : (c.inAck s).2.length ≤ 14 := by
  have k1 := (Conn.ok_inData (Conn.ok_acked h s) hs).1
  have k2 := Conn.pump_len k1
  have k3 := Conn.inData_len (c.acked s).2 s
  unfold Conn.inAck
  split
  · exact of_ble rfl
  · dsimp only
    rw [List.length_append]; omega
theorem Conn.inSync_len {c : Conn} (h : c.Ok) {s : Seg} (hs : s.Ok) : (c.inSync s).2.length ≤ 14 := by
  have k1 := Conn.inAck_len h hs
  have k2 := Conn.inAck_len (Conn.ok_opened h) hs
  unfold Conn.inSync
  split
  · split <;> exact of_ble rfl
  · split
    · split <;> exact of_ble rfl
    · split
      · exact of_ble rfl
      · split
        · split
          · exact of_ble rfl
          · exact k2
        · exact k1
theorem Conn.input_len {c : Conn} (h : c.Ok) {s : Seg} (hs : s.Ok) : (c.input s).2.length ≤ 14 := by
  have k1 := Conn.inSync_len h hs
  unfold Conn.input
  split
  · dsimp only; unfold Conn.inQuiet; split <;> exact of_ble rfl
  · split
    · unfold Conn.inSynSent
      repeat' split
      all_goals exact of_ble rfl
    · split
      · exact k1
      · exact of_ble rfl
theorem Cs.arm_credit (x : Cs) : x.arm.credit = x.credit := by unfold Cs.arm; split <;> rfl
theorem Conn.tick_len (c : Conn) : c.tick.2.length ≤ 14 := by
  unfold Conn.tick
  split
  · exact of_ble rfl
  · split
    · dsimp only; split <;> (split <;> exact of_ble rfl)
    · split
      · dsimp only
        split
        · split
          · exact of_ble rfl
          · rw [List.length_cons]
            exact Nat.succ_le_succ (Conn.pump_len' (by rw [Cs.arm_credit]; exact Int.le_refl _))
        · exact Nat.le_trans (Conn.pump_len' (Int.le_refl _)) (by decide)
      · exact Nat.le_trans (Conn.pump_len' (Int.le_refl _)) (by decide)
theorem Conn.openP_len (c : Conn) (iss : Int) (g : Seg) : (c.openP iss g).2.length ≤ 14 := of_ble rfl
theorem Conn.openA_len (c : Conn) (iss : Int) : (c.openA iss).2.length ≤ 14 := of_ble rfl
def Hst.kN (H : Hst) (sd : Int) : Nat := (H.ent sd).slot.toNat
def Hst.rowT (H : Hst) (sd : Int) (c : Conn) : Tb := if (H.ent sd).parent ≠ 0 ∧ (H.ent sd).ready = false ∧ c.x.st = 3 then (H.t.ready sd).2 else H.t
def Hst.toRowF (H : Hst) (sd : Int) (g : Seg) : List (List Int) := H.emitF (H.ent sd) ((H.c (H.ent sd).slot.toNat).input g).2
def Hst.toRowH (H : Hst) (sd : Int) (g : Seg) : Hst :=
  { H.emitH (H.ent sd) ((H.c (H.ent sd).slot.toNat).input g).2 with c := upA H.c (H.ent sd).slot.toNat ((H.c (H.ent sd).slot.toNat).input g).1, t := H.rowT sd ((H.c (H.ent sd).slot.toNat).input g).1 }
/-- a new child, if there is room -/
def Hst.toLisF (H : Hst) (src : Int) (g : Seg) : List (List Int) :=
  if (H.t.child g.dp src g.sp).2.1 ≠ 0 then [] else
    H.emitF ((H.t.child g.dp src g.sp).2.2.get (H.t.child g.dp src g.sp).1).1 ((H.c ((H.t.child g.dp src g.sp).2.2.get (H.t.child g.dp src g.sp).1).1.slot.toNat).openP (H.clock % 256) g).2
def Hst.toLisH (H : Hst) (src : Int) (g : Seg) : Hst :=
  if (H.t.child g.dp src g.sp).2.1 ≠ 0 then { H with t := (H.t.child g.dp src g.sp).2.2 } else
    { H.emitH ((H.t.child g.dp src g.sp).2.2.get (H.t.child g.dp src g.sp).1).1 ((H.c ((H.t.child g.dp src g.sp).2.2.get (H.t.child g.dp src g.sp).1).1.slot.toNat).openP (H.clock % 256) g).2 with
      c := upA H.c ((H.t.child g.dp src g.sp).2.2.get (H.t.child g.dp src g.sp).1).1.slot.toNat ((H.c ((H.t.child g.dp src g.sp).2.2.get (H.t.child g.dp src g.sp).1).1.slot.toNat).openP (H.clock % 256) g).1, t := (H.t.child g.dp src g.sp).2.2 }
/-! a frame comes in -/
def Hst.segIn (H : Hst) (l : List Int) : Option (Int × Seg) :=
  if ¬ frDecE H.addr l = 0 then none else if ¬ l.getD 2 0 = 1 then none else if ¬ (H.p.inp (frPay l)).1 = 0 then none else if ¬ (frPay l).getD 0 0 = 6 then none
  else if ¬ (segDec ((frPay l).getD 2 0) H.p.addr (H.p.inp (frPay l)).2.2).1 = 0 then none else some ((frPay l).getD 2 0, (segDec ((frPay l).getD 2 0) H.p.addr (H.p.inp (frPay l)).2.2).2)
def Hst.pIn (H : Hst) (l : List Int) : Hst := if frDecE H.addr l = 0 ∧ l.getD 2 0 = 1 then { H with p := (H.p.inp (frPay l)).2.1 } else H
def Hst.dispF (H : Hst) (src : Int) (g : Seg) : List (List Int) :=
  if ¬ H.t.lookup g.dp src g.sp = 0 then H.toRowF (H.t.lookup g.dp src g.sp) g else if g.flags = 1 ∧ ¬ H.t.lis g.dp = 0 then H.toLisF src g else if ¬ g.flags / 8 * 8 = 0 then [] else H.sendF src (nobody g)
def Hst.dispH (H : Hst) (src : Int) (g : Seg) : Hst :=
  if ¬ H.t.lookup g.dp src g.sp = 0 then H.toRowH (H.t.lookup g.dp src g.sp) g else if g.flags = 1 ∧ ¬ H.t.lis g.dp = 0 then H.toLisH src g else if ¬ g.flags / 8 * 8 = 0 then H else H.sendH src (nobody g)
def Hst.inputF (H : Hst) (l : List Int) : List (List Int) := match H.segIn l with
  | none => []
  | some (s, g) => (H.pIn l).dispF s g
def Hst.inputH (H : Hst) (l : List Int) : Hst := match H.segIn l with
  | none => H.pIn l
  | some (s, g) => (H.pIn l).dispH s g
structure Hst.DispOk (H : Hst) (src : Int) (g : Seg) : Prop where
  row : ¬ H.t.lookup g.dp src g.sp = 0 → H.err (H.t.lookup g.dp src g.sp) = 0 ∧ (0 ≤ (H.ent (H.t.lookup g.dp src g.sp)).slot ∧ (H.ent (H.t.lookup g.dp src g.sp)).slot < 4) ∧
    ((H.ent (H.t.lookup g.dp src g.sp)).parent ≠ 0 → (H.ent (H.t.lookup g.dp src g.sp)).ready = false → (H.t.rows (H.t.lrow (H.t.rows (H.t.find (H.t.lookup g.dp src g.sp)).toNat).e.lPort).toNat).n < 2)
  lis : H.t.lookup g.dp src g.sp = 0 → g.flags = 1 → ¬ H.t.lis g.dp = 0 → H.t.nextSd < 1152921504606846976 ∧ (¬ H.t.lrow g.dp = -1 → H.t.free ≠ H.t.lrow g.dp) ∧
    ((H.t.child g.dp src g.sp).2.1 = 0 → ((H.t.child g.dp src g.sp).2.2.get (H.t.child g.dp src g.sp).1).2 = 0 ∧ (0 ≤ ((H.t.child g.dp src g.sp).2.2.get (H.t.child g.dp src g.sp).1).1.slot ∧ ((H.t.child g.dp src g.sp).2.2.get (H.t.child g.dp src g.sp).1).1.slot < 4) ∧ (H.c ((H.t.child g.dp src g.sp).2.2.get (H.t.child g.dp src g.sp).1).1.slot.toNat).x.st = 0)
theorem segDec_isOk {src dst : Int} {l : List Int} (hb : Bytes l) (h : (segDec src dst l).1 = 0) : (segDec src dst l).2.Ok := by
  have u := hb.getD
  unfold segDec at h ⊢
  dsimp only at h ⊢
  split at h
  · exact absurd h (by decide)
  · split at h
    · exact absurd h (by decide)
    · split at h
      · exact absurd h (by decide)
      · split at h
        · exact absurd h (by decide)
        · rename_i h1 h2 h3 h4
          rw [if_neg h1, if_neg h2, if_neg h3, if_neg h4]
          have u4 := u 4
          exact ⟨u 0, u 1, u 2, u 3, by dsimp only; omega, u 5, by simp only [List.length_drop]; omega, hb.drop 8⟩
theorem frPay_b {l : List Int} (hb : Bytes l) : Bytes (frPay l) := (hb.drop 4).take _
theorem Ipt.row_b {q : Ipt} (ok : q.Ok) (i : Nat) : Bytes (q.row i) ∧ (q.row i).length ≤ 40 := by
  refine ⟨?_, ?_⟩
  · intro x hx
    simp only [Ipt.row, List.mem_map, List.mem_range] at hx
    obtain ⟨j, hj, rfl⟩ := hx
    exact (ok.slot i).buf j
  · have := (ok.slot i).total
    simp only [Ipt.row, List.length_map, List.length_range]; omega
theorem Ipt.put_data {p : Ipt} (ok : p.Ok) (i off : Nat) {en : Int} {more : Bool} {l : List Int} (he : -1 ≤ en ∧ en ≤ 40) (h : off + l.length ≤ 40) (hb : Bytes l) : Bytes (p.put i off en more l).2.2 ∧ (p.put i off en more l).2.2.length ≤ 40 := by
  have h1 : (if more = true then p else p.setTotal i en).Ok := by
    split
    · exact ok
    · exact Ipt.ok_setTotal ok i he
  have h2 := Ipt.ok_lay h1 i off h hb
  unfold Ipt.put
  generalize hq : Ipt.lay (if more = true then p else p.setTotal i en) i off l = q at *
  split
  · exact ⟨bytes_nil, Nat.zero_le _⟩
  · split
    · exact Ipt.row_b h2 i
    · exact ⟨bytes_nil, Nat.zero_le _⟩
theorem Ipt.inp_data {p : Ipt} (ok : p.Ok) {l : List Int} (hb : Bytes l) : Bytes (p.inp l).2.2 ∧ (p.inp l).2.2.length ≤ max 40 l.length := by
  have h5 := hb.getD 5
  have h6 := hb.getD 6
  unfold Ipt.inp
  repeat' split
  all_goals first
    | exact ⟨bytes_nil, Nat.zero_le _⟩
    | exact ⟨hb.drop 8, by simp only [List.length_drop]; omega⟩
    | (rename_i e
       obtain ⟨q1, q2⟩ := Ipt.look_some ok e
       refine (fun k => ⟨k.1, Nat.le_trans k.2 (Nat.le_max_left _ _)⟩) (Ipt.put_data q2 _ _ ?_ ?_ (hb.drop 8))
       · omega
       · simp only [List.length_drop]; omega)
theorem Ipt.look_addr {p : Ipt} {key : Int} {i : Nat} {p1 : Ipt} (h : p.look key = some (i, p1)) : p1.addr = p.addr ∧ p1.nxt_ = p.nxt_ ∧ p1.credit = p.credit := by
  unfold Ipt.look at h
  split at h
  · split at h
    · cases h
    · cases h; exact ⟨rfl, rfl, rfl⟩
  · cases h; exact ⟨rfl, rfl, rfl⟩
theorem Ipt.put_addr (p : Ipt) (i off : Nat) (en : Int) (more : Bool) (l : List Int) : (p.put i off en more l).2.1.addr = p.addr ∧ (p.put i off en more l).2.1.nxt_ = p.nxt_ ∧ (p.put i off en more l).2.1.credit = p.credit := by
  have h1 : ∀ q : Ipt, q = (if more = true then p else p.setTotal i en) → (q.addr = p.addr ∧ q.nxt_ = p.nxt_ ∧ q.credit = p.credit) := by
    intro q hq; subst hq; split <;> exact ⟨rfl, rfl, rfl⟩
  have h2 := h1 _ rfl
  unfold Ipt.put
  generalize (if more = true then p else p.setTotal i en) = q at *
  split
  · exact ⟨rfl, rfl, rfl⟩
  · split <;> exact h2
theorem Ipt.inp_addr (p : Ipt) (l : List Int) : (p.inp l).2.1.addr = p.addr ∧ (p.inp l).2.1.nxt_ = p.nxt_ ∧ (p.inp l).2.1.credit = p.credit := by
  unfold Ipt.inp
  repeat' split
  all_goals first
    | exact ⟨rfl, rfl, rfl⟩
    | (rename_i e
       have k := Ipt.look_addr e
       have k2 := Ipt.put_addr _ _ _ _ _ _
       exact ⟨k2.1.trans k.1, k2.2.1.trans k.2.1, k2.2.2.trans k.2.2⟩)
    | (rename_i e
       have k := Ipt.look_addr e
       refine ⟨(Ipt.put_addr _ _ _ _ _ _).1.trans k.1, (Ipt.put_addr _ _ _ _ _ _).2.1.trans k.2.1, (Ipt.put_addr _ _ _ _ _ _).2.2.trans k.2.2⟩)
theorem Hst.disp_p {H : Hst} {src : Int} {g : Seg} (h : H.DispOk src g) (p : Ipt) : Hst.DispOk { H with p := p } src g := ⟨h.row, h.lis⟩
end Go.Proofs.Qxb6500351aGreat
