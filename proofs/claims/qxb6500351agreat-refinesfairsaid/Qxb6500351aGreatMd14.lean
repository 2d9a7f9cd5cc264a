/- THE PLAIN FUNCTIONS of the host's calls. No Go in sight. -/
import Derived.Test.Qxb6500351aGreatMd13
set_option linter.unusedVariables false
set_option linter.unusedSimpArgs false
namespace Go.Proofs.Qxb6500351aGreat
open Go.Eng
def Hst.aft (H : Hst) (sd : Int) (c : Conn) (segs : List Seg) : Hst := { H.emitH (H.ent sd) segs with c := upA H.c (H.ent sd).slot.toNat c, t := H.t }
def Hst.cn (H : Hst) (sd : Int) : Conn := H.c (H.ent sd).slot.toNat
def Hst.sendE (H : Hst) (sd : Int) (l : List Int) : Int := if H.oursB sd = true then ((H.cn sd).send l).2.2.2 else 21
def Hst.recvE (H : Hst) (sd mx : Int) : Int := if H.oursB sd = true then ((H.cn sd).recv mx).2.2.2 else 21
/-- a listener's children are ended, one after the other -/
def Hst.shutF1 (H : Hst) (lsd sd : Int) : List (List Int) := if H.err sd = 0 ∧ (H.ent sd).parent = lsd ∧ (H.cn sd).abort.2.2 = 0 then H.emitF (H.ent sd) (H.cn sd).abort.2.1 else []
def Hst.shutH1 (H : Hst) (lsd sd : Int) : Hst := if H.err sd = 0 ∧ (H.ent sd).parent = lsd ∧ (H.cn sd).abort.2.2 = 0 then H.aft sd (H.cn sd).abort.1 (H.cn sd).abort.2.1 else H
def Hst.shutF (H : Hst) (lsd : Int) : List Int → List (List Int)
  | [] => []
  | sd :: l => H.shutF1 lsd sd ++ (H.shutH1 lsd sd).shutF lsd l
def Hst.shutH (H : Hst) (lsd : Int) : List Int → Hst
  | [] => H
  | sd :: l => (H.shutH1 lsd sd).shutH lsd l
theorem Hst.shutF_snoc (lsd sd : Int) : ∀ (l : List Int) (H : Hst), H.shutF lsd (l ++ [sd]) = H.shutF lsd l ++ (H.shutH lsd l).shutF1 lsd sd
  | [], H => by simp [Hst.shutF, Hst.shutH]
  | a :: l, H => by simp only [Hst.shutF, Hst.shutH, List.cons_append]; rw [Hst.shutF_snoc lsd sd l]; simp
theorem Hst.shutH_snoc (lsd sd : Int) : ∀ (l : List Int) (H : Hst), H.shutH lsd (l ++ [sd]) = (H.shutH lsd l).shutH1 lsd sd
  | [], H => rfl
  | a :: l, H => by simp only [Hst.shutH, List.cons_append]; exact Hst.shutH_snoc lsd sd l _
def Hst.shutdown (H : Hst) (lsd : Int) : Hst := { H.shutH lsd H.t.list with t := (H.t.freeSd lsd).2 }
structure Tb.FreeOk (t : Tb) (sd : Int) : Prop where
  hk : ∀ j, -999 ≤ (t.rows j).kids
  hl : -999 ≤ t.listeners
  h1 : (t.rows (t.find sd).toNat).e.kind = 1 → (t.rows (t.find sd).toNat).e.lPort < 8
  h2 : ¬ t.find sd = -1 → ¬ (t.rows (t.find sd).toNat).e.kind = 1 → 0 ≤ (t.rows (t.find sd).toNat).e.slot
/-! a tick -/
def Hst.tickF1 (H : Hst) (sd : Int) : List (List Int) := if H.err sd = 0 ∧ (H.ent sd).kind = 2 then H.emitF (H.ent sd) (H.cn sd).tick.2 else []
def Hst.tickH1 (H : Hst) (sd : Int) : Hst :=
  if H.err sd = 0 ∧ (H.ent sd).kind = 2 then { H.aft sd (H.cn sd).tick.1 (H.cn sd).tick.2 with t := if (H.cn sd).tick.1.x.st = 0 then (H.t.freeSd sd).2 else H.t } else H
def Hst.tickF (H : Hst) : List Int → List (List Int)
  | [] => []
  | sd :: l => H.tickF1 sd ++ (H.tickH1 sd).tickF l
def Hst.tickH (H : Hst) : List Int → Hst
  | [] => H
  | sd :: l => (H.tickH1 sd).tickH l
theorem Hst.tickF_snoc (sd : Int) : ∀ (l : List Int) (H : Hst), H.tickF (l ++ [sd]) = H.tickF l ++ (H.tickH l).tickF1 sd
  | [], H => by simp [Hst.tickF, Hst.tickH]
  | a :: l, H => by simp only [Hst.tickF, Hst.tickH, List.cons_append]; rw [Hst.tickF_snoc sd l]; simp
theorem Hst.tickH_snoc (sd : Int) : ∀ (l : List Int) (H : Hst), H.tickH (l ++ [sd]) = (H.tickH l).tickH1 sd
  | [], H => rfl
  | a :: l, H => by simp only [Hst.tickH, List.cons_append]; exact Hst.tickH_snoc sd l _
def Hst.tickOk : Hst → List Int → Prop
  | _, [] => True
  | H, sd :: l => (H.err sd = 0 → (H.ent sd).kind = 2 → (0 ≤ (H.ent sd).slot ∧ (H.ent sd).slot < 4) ∧ ((H.cn sd).tick.1.x.st = 0 → H.t.FreeOk sd)) ∧ (H.tickH1 sd).tickOk l
def Hst.tick0 (H : Hst) : Hst := { H with clock := H.clock + 1, p := H.p.tick }
theorem Conn.send_len {c : Conn} (h : c.Ok) (l : List Int) : (c.send l).2.2.1.length ≤ 14 := by
  have h1 := h.x.credit
  unfold Conn.send
  repeat' split
  all_goals first
    | exact of_ble rfl
    | exact Nat.le_trans (Conn.pump_len' (by dsimp only; omega)) (by decide)
theorem Conn.recv_len (c : Conn) (mx : Int) : (c.recv mx).2.2.1.length ≤ 14 := by
  unfold Conn.recv
  repeat' split
  all_goals exact of_ble rfl
theorem Conn.close_len {c : Conn} (h : c.Ok) : c.close.2.1.length ≤ 14 := by
  have h1 := h.x.credit
  unfold Conn.close
  repeat' split
  all_goals first
    | exact of_ble rfl
    | exact Nat.le_trans (Conn.pump_len' (by dsimp only; omega)) (by decide)
theorem Conn.abort_len (c : Conn) : c.abort.2.1.length ≤ 14 := by
  unfold Conn.abort
  repeat' split
  all_goals exact of_ble rfl
theorem Hst.ok_aft {H : Hst} (ok : H.Ok) (sd : Int) {c : Conn} (hc : c.Ok) {segs : List Seg} (hl : H.lost + segs.length ≤ 1152921504606846976) : (H.aft sd c segs).Ok := by
  have h := Hst.ok_emitH (H.ent sd) segs ok hl
  have e := Hst.emitH_c (H.ent sd) segs H
  exact ⟨h.addr, h.clock, h.lost, h.p, h.pa, fun j => by unfold Hst.aft upA; dsimp only; split; exact hc; exact ok.c j, ok.t⟩
theorem Conn.sg_send {c : Conn} (h : c.Ok) {l : List Int} (hb : Bytes l) : ∀ g, g ∈ (c.send l).2.2.1 → g.Ok := by
  have k := (Conn.ok_pump (c := ⟨c.x, c.s.put l, c.r⟩) ⟨h.x, Sb.ok_put h.s hb, h.r⟩).2
  unfold Conn.send
  repeat' split
  all_goals first
    | exact k
    | (intro g hg; exact absurd hg List.not_mem_nil)
theorem Conn.sg_recv {c : Conn} (h : c.Ok) (mx : Int) : ∀ g, g ∈ (c.recv mx).2.2.1 → g.Ok := by
  have k := Conn.ok_ack (c := ⟨c.x, c.s, c.r.read mx⟩) ⟨h.x, h.s, Rb.ok_read h.r mx⟩
  unfold Conn.recv
  repeat' split
  all_goals first
    | (intro g hg; exact absurd hg List.not_mem_nil)
    | (intro g hg
       simp only [List.mem_cons, List.not_mem_nil, or_false] at hg
       subst hg; exact k)
theorem Conn.sg_close {c : Conn} (h : c.Ok) : ∀ g, g ∈ c.close.2.1 → g.Ok := by
  have hx := h.x
  have k := (Conn.ok_pump (c := ⟨{ c.x with weClosed := true }, c.s, c.r⟩) ⟨⟨hx.st, hx.iss, hx.wnd, hx.timer, hx.retr, hx.credit, hx.quiet⟩, h.s, h.r⟩).2
  unfold Conn.close
  repeat' split
  all_goals first
    | exact k
    | (intro g hg; exact absurd hg List.not_mem_nil)
theorem Conn.sg_abort {c : Conn} (h : c.Ok) : ∀ g, g ∈ c.abort.2.1 → g.Ok := by
  unfold Conn.abort
  repeat' split
  all_goals first
    | (intro g hg; exact absurd hg List.not_mem_nil)
    | (intro g hg
       simp only [List.mem_cons, List.not_mem_nil, or_false] at hg
       subst hg; exact ok_rst _)
theorem take_snoc (l : List Int) (k : Nat) (h : k < l.length) : l.take (k + 1) = l.take k ++ [l.getD k 0] := by
  rw [List.take_add_one, List.getElem?_eq_getElem h]
  simp [List.getD_eq_getElem?_getD, h]
theorem getD_mem {l : List Int} {k : Nat} (h : k < l.length) : l.getD k 0 ∈ l := by
  rw [List.getD_eq_getElem?_getD, List.getElem?_eq_getElem h]; exact List.getElem_mem h
/-! an opening -/
def Hst.conM (H : Hst) (rh rp : Int) : Int × Int × Tb := H.t.connect rh rp
def Hst.conEn (H : Hst) (rh rp : Int) : En := ((H.t.connect rh rp).2.2.get (H.t.connect rh rp).1).1
def Hst.conH (H : Hst) (rh rp : Int) : Hst :=
  if ¬ (H.t.connect rh rp).2.1 = 0 then { H with t := (H.t.connect rh rp).2.2 } else
    { H.emitH (H.conEn rh rp) ((H.c (H.conEn rh rp).slot.toNat).openA (H.clock % 256)).2 with c := upA H.c (H.conEn rh rp).slot.toNat ((H.c (H.conEn rh rp).slot.toNat).openA (H.clock % 256)).1, t := (H.t.connect rh rp).2.2 }
def Hst.conF (H : Hst) (rh rp : Int) : List (List Int) :=
  if ¬ (H.t.connect rh rp).2.1 = 0 then [] else H.emitF (H.conEn rh rp) ((H.c (H.conEn rh rp).slot.toNat).openA (H.clock % 256)).2
theorem Hst.aft_addr (H : Hst) (sd : Int) (c : Conn) (segs : List Seg) : (H.aft sd c segs).addr = H.addr := Hst.emitH_addr _ _ _
theorem Hst.aft_lost (H : Hst) (sd : Int) (c : Conn) (segs : List Seg) : H.lost ≤ (H.aft sd c segs).lost ∧ (H.aft sd c segs).lost ≤ H.lost + segs.length := Hst.emitH_lost _ _ _
theorem Hst.aft_clock (H : Hst) (sd : Int) (c : Conn) (segs : List Seg) : (H.aft sd c segs).clock = H.clock := Hst.emitH_clock _ _ _
theorem Tb.list_len (t : Tb) : t.list.length ≤ 6 := by
  unfold Tb.list; rw [Tb.insTo_len]; exact Tb.usedTo_le t 6
theorem drop_cons {l : List Int} {k : Nat} (h : k < l.length) : l.drop k = l.getD k 0 :: l.drop (k + 1) := by
  rw [List.drop_eq_getElem_cons h]
  simp [List.getD_eq_getElem?_getD, h]
theorem Hst.tick_skip {H : Hst} {sd : Int} (h : ¬ (H.err sd = 0 ∧ (H.ent sd).kind = 2)) : H.tickH1 sd = H ∧ H.tickF1 sd = [] := by
  unfold Hst.tickH1 Hst.tickF1; rw [if_neg h, if_neg h]; exact ⟨rfl, rfl⟩
theorem Hst.tick_go {H : Hst} {sd : Int} (h1 : H.err sd = 0) (h2 : (H.ent sd).kind = 2) (T : Tb) (hT : (if (H.cn sd).tick.1.x.st = 0 then (H.t.freeSd sd).2 else H.t) = T) :
    H.tickH1 sd = { H.aft sd (H.cn sd).tick.1 (H.cn sd).tick.2 with t := T } ∧ H.tickF1 sd = H.emitF (H.ent sd) (H.cn sd).tick.2 := by
  subst hT
  exact ⟨by unfold Hst.tickH1; rw [if_pos ⟨h1, h2⟩], by unfold Hst.tickF1; rw [if_pos ⟨h1, h2⟩]⟩
theorem Hst.shut_skip {H : Hst} {lsd sd : Int} (h : ¬ (H.err sd = 0 ∧ (H.ent sd).parent = lsd ∧ (H.cn sd).abort.2.2 = 0)) : H.shutH1 lsd sd = H ∧ H.shutF1 lsd sd = [] := by
  unfold Hst.shutH1 Hst.shutF1; rw [if_neg h, if_neg h]; exact ⟨rfl, rfl⟩
theorem Hst.shut_go {H : Hst} {lsd sd : Int} (h : H.err sd = 0 ∧ (H.ent sd).parent = lsd ∧ (H.cn sd).abort.2.2 = 0) : H.shutH1 lsd sd = H.aft sd (H.cn sd).abort.1 (H.cn sd).abort.2.1 ∧ H.shutF1 lsd sd = H.emitF (H.ent sd) (H.cn sd).abort.2.1 := by
  unfold Hst.shutH1 Hst.shutF1; rw [if_pos h, if_pos h]; exact ⟨rfl, rfl⟩
theorem Hst.tickF1_len (H : Hst) (sd : Int) : (H.tickF1 sd).length ≤ 28 := by
  unfold Hst.tickF1; split
  · have k1 := Hst.emitF_len (H.ent sd) (H.cn sd).tick.2 H
    have k2 := Conn.tick_len (H.cn sd)
    omega
  · exact Nat.zero_le _
theorem Hst.tickF_len : ∀ (l : List Int) (H : Hst), (H.tickF l).length ≤ 28 * l.length
  | [], H => Nat.zero_le _
  | sd :: l, H => by
    have k1 := H.tickF1_len sd
    have k2 := Hst.tickF_len l (H.tickH1 sd)
    simp only [Hst.tickF, List.length_append, List.length_cons]
    omega
theorem Hst.tickH1_addr (H : Hst) (sd : Int) : (H.tickH1 sd).addr = H.addr := by
  unfold Hst.tickH1; split
  · exact Hst.emitH_addr (H.ent sd) (H.cn sd).tick.2 H
  · rfl
theorem Hst.tickH_addr : ∀ (l : List Int) (H : Hst), (H.tickH l).addr = H.addr
  | [], H => rfl
  | sd :: l, H => (Hst.tickH_addr l _).trans (H.tickH1_addr sd)
theorem Hst.shutF1_len (H : Hst) (lsd sd : Int) : (H.shutF1 lsd sd).length ≤ 28 := by
  unfold Hst.shutF1; split
  · have k1 := Hst.emitF_len (H.ent sd) (H.cn sd).abort.2.1 H
    have k2 := Conn.abort_len (H.cn sd)
    omega
  · exact Nat.zero_le _
theorem Hst.shutF_len (lsd : Int) : ∀ (l : List Int) (H : Hst), (H.shutF lsd l).length ≤ 28 * l.length
  | [], H => Nat.zero_le _
  | sd :: l, H => by
    have k1 := H.shutF1_len lsd sd
    have k2 := Hst.shutF_len lsd l (H.shutH1 lsd sd)
    simp only [Hst.shutF, List.length_append, List.length_cons]
    omega
theorem Hst.shutH1_addr (H : Hst) (lsd sd : Int) : (H.shutH1 lsd sd).addr = H.addr := by
  unfold Hst.shutH1; split
  · exact Hst.aft_addr _ _ _ _
  · rfl
theorem Hst.shutH_addr (lsd : Int) : ∀ (l : List Int) (H : Hst), (H.shutH lsd l).addr = H.addr
  | [], H => rfl
  | sd :: l, H => (Hst.shutH_addr lsd l _).trans (H.shutH1_addr lsd sd)
def Hst.closeE (H : Hst) (sd : Int) : Int := if H.lisB sd = true then 0 else if H.oursB sd = true then (H.cn sd).close.2.2 else 21
def Hst.closeF (H : Hst) (sd : Int) : List (List Int) := if H.lisB sd = true then H.shutF sd H.t.list else H.emitF (H.ent sd) (H.cn sd).close.2.1
def Hst.closeH (H : Hst) (sd : Int) : Hst := if H.lisB sd = true then H.shutdown sd else H.aft sd (H.cn sd).close.1 (H.cn sd).close.2.1
def Hst.abortE (H : Hst) (sd : Int) : Int := if H.lisB sd = true then 0 else if H.oursB sd = true then (H.cn sd).abort.2.2 else 21
def Hst.abortF (H : Hst) (sd : Int) : List (List Int) := if H.lisB sd = true then H.shutF sd H.t.list else H.emitF (H.ent sd) (H.cn sd).abort.2.1
def Hst.abortH (H : Hst) (sd : Int) : Hst := if H.lisB sd = true then H.shutdown sd else H.aft sd (H.cn sd).abort.1 (H.cn sd).abort.2.1
structure Hst.ShutOk (H : Hst) (lsd : Int) : Prop where
  kids : ∀ sd, sd ∈ H.t.list → H.err sd = 0 → (H.ent sd).parent = lsd → 0 ≤ (H.ent sd).slot ∧ (H.ent sd).slot < 4
  free : H.t.FreeOk lsd
/-! the host's check -/
structure Hst.ChkOk (H : Hst) : Prop where
  row : ∀ k, k < H.t.list.length → H.err (H.t.list.getD k 0) = 0 ∧ ((H.ent (H.t.list.getD k 0)).kind = 2 → (0 ≤ (H.ent (H.t.list.getD k 0)).slot ∧ (H.ent (H.t.list.getD k 0)).slot < 4) ∧ (H.cn (H.t.list.getD k 0)).x.st ≠ 0 ∧
    ((H.ent (H.t.list.getD k 0)).ready = true → (H.cn (H.t.list.getD k 0)).x.st = 3 ∨ (H.cn (H.t.list.getD k 0)).x.st = 4) ∧ ∀ j, j < k → (H.ent (H.t.list.getD j 0)).kind = 2 → (H.ent (H.t.list.getD j 0)).slot.toNat ≠ (H.ent (H.t.list.getD k 0)).slot.toNat)
  free : ∀ s, s < 4 → (∀ k, k < H.t.list.length → (H.ent (H.t.list.getD k 0)).kind = 2 → (H.ent (H.t.list.getD k 0)).slot.toNat ≠ s) → (H.c s).x.st = 0
def Hst.used (H : Hst) (k s : Nat) : Prop := ∃ j, j < k ∧ (H.ent (H.t.list.getD j 0)).kind = 2 ∧ (H.ent (H.t.list.getD j 0)).slot.toNat = s
theorem Hst.used_zero {H : Hst} {s : Nat} : (fun _ : Nat => false) s = true ↔ H.used 0 s := ⟨(fun z => nomatch z), by rintro ⟨j, hj, _⟩; omega⟩
theorem Hst.used_skip {H : Hst} {k s : Nat} (h : ¬ (H.ent (H.t.list.getD k 0)).kind = 2) : H.used (k + 1) s ↔ H.used k s := by
  constructor
  · rintro ⟨j, hj, h1, h2⟩
    have : j ≠ k := fun e => by subst e; exact h h1
    exact ⟨j, by omega, h1, h2⟩
  · rintro ⟨j, hj, h1, h2⟩; exact ⟨j, by omega, h1, h2⟩
theorem Hst.used_add {H : Hst} {f : Nat → Bool} {k : Nat} (h : (H.ent (H.t.list.getD k 0)).kind = 2) (hf : ∀ s, s < 4 → (f s = true ↔ H.used k s)) : ∀ s, s < 4 → (upA f (H.ent (H.t.list.getD k 0)).slot.toNat true s = true ↔ H.used (k + 1) s) := by
  intro s hs
  unfold upA
  split
  · rename_i e
    exact ⟨fun _ => ⟨k, by omega, h, e.symm⟩, fun _ => rfl⟩
  · rename_i e
    rw [hf s hs]
    constructor
    · rintro ⟨j, hj, h1, h2⟩; exact ⟨j, by omega, h1, h2⟩
    · rintro ⟨j, hj, h1, h2⟩
      have : j ≠ k := fun e' => by subst e'; exact e h2.symm
      exact ⟨j, by omega, h1, h2⟩
def uV (f : Nat → Bool) : Array Value := #[.bool (f 0), .bool (f 1), .bool (f 2), .bool (f 3)]
theorem uV_get {f : Nat → Bool} {o : Nat} (i : Nat) (hi : i < 4) (ho : o = 0 + i * 1) : (uV f)[o]? = some (.bool (f i)) := by
  obtain rfl : o = i := by omega
  have qi : o = 0 ∨ o = 1 ∨ o = 2 ∨ o = 3 := by omega
  rcases qi with rfl | rfl | rfl | rfl <;> rfl
theorem uV_set {f : Nat → Bool} {x : Bool} {o : Nat} (i : Nat) (hi : i < 4) (ho : o = 0 + i * 1) : (uV f).setIfInBounds o (.bool x) = uV (upA f i x) := by
  obtain rfl : o = i := by omega
  have qi : o = 0 ∨ o = 1 ∨ o = 2 ∨ o = 3 := by omega
  rcases qi with rfl | rfl | rfl | rfl <;> rfl
theorem uV_size {f : Nat → Bool} : (uV f).size = 4 := rfl
/-! a host is made -/
theorem fill_Hs (a : Int) (l p t : Value) (c : Nat → Value) (hl : l.cells = #[l]) (hp : p.cells = #[p]) (ht : t.cells = #[t]) :
    fillE [(0, 1), (1, 1), (2, 1), (3, 8), (11, 1), (12, 1), (13, 4), (17, 1)] Hs.zero.enc [(0, .int .i64 a), (4, l), (5, p), (6, .agg #[c 0, c 1, c 2, c 3]), (7, t)] = some (Hs.enc (Hs.mk a 0 0 (fun _ => 0) l p c t)) := by
  simp only [fillE, hl, hp, ht]
  rfl
theorem Bl.E_c {l p t : Value} {c : Nat → Value} : (Bl.enc (Bl.mk l p c t)).extract 2 (2 + 4) = #[c 0, c 1, c 2, c 3] := rfl
def cv4 (a b c d : Nat) (i : Nat) : Nat := match i with
  | 0 => a
  | 1 => b
  | 2 => c
  | _ => d
def Ipt.init (a : Int) : Ipt := { Ipt.zero with addr := a, credit := 24 }
def Hst.init (a : Int) : Hst := { addr := a, clock := 0, lost := 0, p := Ipt.init a, c := fun _ => Conn.zero, t := Tb.init }
end Go.Proofs.Qxb6500351aGreat
