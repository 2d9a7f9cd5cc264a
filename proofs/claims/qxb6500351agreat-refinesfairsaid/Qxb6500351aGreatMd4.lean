/- THE PLAIN FUNCTIONS of a connection block. No Go in sight. -/
import Derived.Test.Qxb6500351aGreatMd3
import Derived.Test.Qxb6500351aGreatEngA
set_option linter.unusedVariables false
set_option linter.unusedSimpArgs false
namespace Go.Proofs.Qxb6500351aGreat
open Go.Eng

/-- the control block without its two pointers -/
structure Cs where
  st : Int
  why : Int
  weClosed : Bool
  finSent : Bool
  finAcked : Bool
  peerFin : Bool
  iss : Int
  peerWnd : Int
  timer : Int
  retries : Int
  credit : Int
  quiet : Int
def Cs.zero : Cs := ⟨0, 0, false, false, false, false, 0, 0, 0, 0, 0, 0⟩
def ptr (b : Nat) : Value := .pointer (some ⟨b, 0, none⟩)
def Cs.cn (x : Cs) (ps pr : Nat) : Cn := ⟨ptr ps, ptr pr, x.st, x.why, x.weClosed, x.finSent, x.finAcked, x.peerFin, x.iss, x.peerWnd, x.timer, x.retries, x.credit, x.quiet⟩
def Cn.cs (k : Cn) : Cs := ⟨k.st, k.why, k.weClosed, k.finSent, k.finAcked, k.peerFin, k.iss, k.peerWnd, k.timer, k.retries, k.credit, k.quiet⟩
structure Conn where
  x : Cs
  s : Sb
  r : Rb
structure Cs.Ok (x : Cs) : Prop where
  st : 0 ≤ x.st ∧ x.st ≤ 4
  iss : 0 ≤ x.iss ∧ x.iss < 256
  wnd : 0 ≤ x.peerWnd ∧ x.peerWnd ≤ 255
  timer : 0 ≤ x.timer ∧ x.timer ≤ 16
  retr : 0 ≤ x.retries ∧ x.retries ≤ 3
  credit : 0 ≤ x.credit ∧ x.credit ≤ 12
  quiet : 0 ≤ x.quiet ∧ x.quiet ≤ 10
structure Conn.Ok (c : Conn) : Prop where
  x : c.x.Ok
  s : c.s.Ok
  r : c.r.Ok
theorem Cs.ok_zero : Cs.zero.Ok := by constructor <;> simp [Cs.zero]
def Conn.wipe (c : Conn) : Conn := ⟨Cs.zero, c.s.reset 0, c.r.reset 0⟩
def Conn.fail (c : Conn) (why : Int) : Conn := ⟨{ Cs.zero with st := 4, why := why, quiet := 10 }, c.s.reset 0, c.r.reset 0⟩
theorem Conn.ok_wipe {c : Conn} (h : c.Ok) : c.wipe.Ok := ⟨Cs.ok_zero, Sb.ok_reset h.s 0, Rb.ok_reset h.r 0⟩
theorem Conn.ok_fail {c : Conn} (h : c.Ok) (why : Int) : (c.fail why).Ok := ⟨by constructor <;> simp [Conn.fail, Cs.zero], Sb.ok_reset h.s 0, Rb.ok_reset h.r 0⟩
def Conn.flying (c : Conn) : Int := if c.x.st = 1 ∨ c.x.st = 2 then 1 else if c.x.finSent = true ∧ c.x.finAcked = false then c.s.sent + 1 else c.s.sent
def Conn.sndUna (c : Conn) : Int := if c.x.finAcked = true then seqAdd c.s.una 1 else c.s.una
def Conn.sndNxt (c : Conn) : Int := seqAdd c.sndUna c.flying
def Conn.rcvNxt (c : Conn) : Int := if c.x.peerFin = true then seqAdd c.r.nxt 1 else c.r.nxt
theorem Conn.flying_b {c : Conn} (h : c.Ok) : 0 ≤ c.flying ∧ c.flying ≤ 17 := by
  have h1 := h.s.sent0; have h2 := h.s.sentc; have h3 := h.s.count
  unfold Conn.flying; repeat' split
  all_goals omega
theorem Conn.sndUna_b {c : Conn} (h : c.Ok) : 0 ≤ c.sndUna ∧ c.sndUna < 256 := by
  have h1 := h.s.una0; have h2 := h.s.una1; have := seqAdd_b c.s.una 1
  unfold Conn.sndUna; split <;> omega
theorem Conn.rcvNxt_b {c : Conn} (h : c.Ok) : 0 ≤ c.rcvNxt ∧ c.rcvNxt < 256 := by
  have h1 := h.r.nxt0; have h2 := h.r.nxt1; have := seqAdd_b c.r.nxt 1
  unfold Conn.rcvNxt; split <;> omega
theorem Conn.sndNxt_b (c : Conn) : 0 ≤ c.sndNxt ∧ c.sndNxt < 256 := seqAdd_b _ _
def Conn.mk' (c : Conn) (flags seq : Int) (data : List Int) : Seg := ⟨0, 0, seq, if flags = 1 then 0 else c.rcvNxt, flags, 16 - c.r.avail, data⟩
theorem Conn.ok_mk {c : Conn} (h : c.Ok) {flags seq : Int} {data : List Int} (hf : 0 ≤ flags ∧ flags < 16) (hs : 0 ≤ seq ∧ seq < 256) (hd : data.length ≤ 12) (hb : Bytes data) : (c.mk' flags seq data).Ok := by
  have h1 := Conn.rcvNxt_b h
  have h2 := h.r.av0; have h3 := h.r.av1
  refine ⟨by simp [Conn.mk'], by simp [Conn.mk'], hs, ?_, hf, by simp only [Conn.mk']; omega, hd, hb⟩
  simp only [Conn.mk']; split <;> omega
def Conn.ack (c : Conn) : Seg := c.mk' 2 c.sndNxt []
def rstS (n : Int) : Seg := ⟨0, 0, seqAdd n 0, 0, 8, 0, []⟩
theorem bytes_nil : Bytes [] := fun x h => by simp at h
theorem ok_rst (n : Int) : (rstS n).Ok := ⟨by simp [rstS], by simp [rstS], seqAdd_b _ _, by simp [rstS], by simp [rstS], by simp [rstS], by simp [rstS], bytes_nil⟩
theorem Conn.ok_ack {c : Conn} (h : c.Ok) : c.ack.Ok := Conn.ok_mk h (by omega) c.sndNxt_b (by simp) bytes_nil
def Cs.arm (x : Cs) : Cs := if x.timer = 0 then { x with timer := 2 * 2 ^ x.retries.toNat } else x
theorem Cs.ok_arm {x : Cs} (h : x.Ok) : x.arm.Ok := by
  obtain ⟨h1, h2, h3, h4, h5, h6, h7⟩ := h
  unfold Cs.arm
  split
  · refine ⟨h1, h2, h3, ?_, h5, h6, h7⟩
    have : x.retries = 0 ∨ x.retries = 1 ∨ x.retries = 2 ∨ x.retries = 3 := by omega
    rcases this with h | h | h | h <;> simp [h]
  · exact ⟨h1, h2, h3, h4, h5, h6, h7⟩
/-- THE retransmission -/
def Conn.again (c : Conn) : Seg :=
  if c.x.st = 1 then c.mk' 1 c.x.iss [] else if c.x.st = 2 then c.mk' 3 c.x.iss [] else
  if 0 < c.s.againN 12 then c.mk' 2 c.s.una (c.s.span 0 (c.s.againN 12)) else c.mk' 6 c.s.una []
theorem Conn.ok_again {c : Conn} (h : c.Ok) : c.again.Ok := by
  have h1 := h.x.iss; have h2 := h.s.una0; have h3 := h.s.una1
  have h4 := Sb.againN_b h.s 12
  unfold Conn.again
  repeat' split
  · exact Conn.ok_mk h (by omega) h1 (by simp) bytes_nil
  · exact Conn.ok_mk h (by omega) h1 (by simp) bytes_nil
  · refine Conn.ok_mk h (by omega) ⟨h2, h3⟩ ?_ (Sb.span_b h.s _ _)
    rw [Sb.span_len]; unfold Sb.againN least; omega
  · exact Conn.ok_mk h (by omega) ⟨h2, h3⟩ (by simp) bytes_nil
/-! ### pump -/
def Conn.pumpN (c : Conn) : Int := min (min (min (c.s.count - c.s.sent) ((if c.x.peerWnd = 0 then 1 else c.x.peerWnd) - c.s.sent)) 12) c.x.credit
def Conn.pumpC (c : Conn) : Conn := ⟨({ c.x with credit := c.x.credit - c.pumpN } : Cs).arm, c.s.next c.pumpN, c.r⟩
def Conn.pumpS (c : Conn) : Seg := (⟨c.x, c.s.next c.pumpN, c.r⟩ : Conn).mk' 2 c.s.nxt (c.s.span c.s.sent (c.s.nextN c.pumpN))
def Conn.pumpF : Nat → Conn → Conn × List Seg
  | 0, c => (c, [])
  | f + 1, c => if c.pumpN ≤ 0 then (c, []) else ((Conn.pumpF f c.pumpC).1, c.pumpS :: (Conn.pumpF f c.pumpC).2)
def Conn.pumpE (c : Conn) : Conn × List Seg := if c.x.weClosed = true ∧ c.x.finSent = false ∧ 0 < c.x.credit ∧ c.s.count - c.s.sent = 0 then (⟨({ c.x with finSent := true, credit := c.x.credit - 1 } : Cs).arm, c.s, c.r⟩, [c.mk' 6 c.s.nxt []]) else (c, [])
def Conn.pumpL (c : Conn) : Conn × List Seg := Conn.pumpF c.x.credit.toNat c
def Conn.pump (c : Conn) : Conn × List Seg := if c.x.st = 3 then (c.pumpL.1.pumpE.1, c.pumpL.2 ++ c.pumpL.1.pumpE.2) else (c, [])
theorem Conn.pumpN_b {c : Conn} (h : c.Ok) : c.pumpN ≤ c.s.count - c.s.sent ∧ c.pumpN ≤ 12 ∧ c.pumpN ≤ c.x.credit := by unfold Conn.pumpN; omega
theorem Conn.ok_pumpC {c : Conn} (h : c.Ok) (hn : ¬ c.pumpN ≤ 0) : c.pumpC.Ok := by
  have hb := Conn.pumpN_b h
  refine ⟨Cs.ok_arm ?_, Sb.ok_next h.s _, h.r⟩
  obtain ⟨h1, h2, h3, h4, h5, h6, h7⟩ := h.x
  exact ⟨h1, h2, h3, h4, h5, by simp only; omega, h7⟩
theorem Conn.nextN_pump {c : Conn} (h : c.Ok) (hn : ¬ c.pumpN ≤ 0) : c.s.nextN c.pumpN = c.pumpN := by
  have hb := Conn.pumpN_b h
  unfold Sb.nextN least; omega
theorem Conn.ok_pumpS {c : Conn} (h : c.Ok) (hn : ¬ c.pumpN ≤ 0) : c.pumpS.Ok := by
  have hb := Conn.pumpN_b h
  refine Conn.ok_mk (c := ⟨c.x, c.s.next c.pumpN, c.r⟩) ⟨h.x, Sb.ok_next h.s _, h.r⟩ (by omega) (by unfold Sb.nxt; omega) ?_ (Sb.span_b h.s _ _)
  rw [Sb.span_len, Conn.nextN_pump h hn]; omega
theorem Conn.pumpC_credit (c : Conn) : c.pumpC.x.credit = c.x.credit - c.pumpN := by
  simp only [Conn.pumpC, Cs.arm]; split <;> rfl
theorem Conn.ok_pumpF : ∀ (f : Nat) {c : Conn}, c.Ok → (Conn.pumpF f c).1.Ok ∧ ∀ g, g ∈ (Conn.pumpF f c).2 → g.Ok
  | 0, c, h => ⟨h, fun g hg => by simp [Conn.pumpF] at hg⟩
  | f + 1, c, h => by
    simp only [Conn.pumpF]
    split
    · exact ⟨h, fun g hg => by simp at hg⟩
    · rename_i hn
      have ih := Conn.ok_pumpF f (Conn.ok_pumpC h hn)
      refine ⟨ih.1, fun g hg => ?_⟩
      rcases List.mem_cons.1 hg with rfl | hg
      · exact Conn.ok_pumpS h hn
      · exact ih.2 g hg
theorem Conn.pumpF_eq : ∀ (f : Nat) (c : Conn) (g : Nat), c.x.credit.toNat ≤ f → c.x.credit.toNat ≤ g → Conn.pumpF f c = Conn.pumpF g c
  | 0, c, g, h, _ => by
    have h0 : c.pumpN ≤ 0 := by unfold Conn.pumpN; omega
    cases g <;> simp [Conn.pumpF, h0]
  | f + 1, c, 0, _, h => by
    have h0 : c.pumpN ≤ 0 := by unfold Conn.pumpN; omega
    simp [Conn.pumpF, h0]
  | f + 1, c, g + 1, h1, h2 => by
    simp only [Conn.pumpF]
    split
    · rfl
    · rename_i hn
      have := c.pumpC_credit
      rw [Conn.pumpF_eq f c.pumpC g (by omega) (by omega)]
theorem Conn.pumpL_stop {c : Conn} (h : c.pumpN ≤ 0) : c.pumpL = (c, []) := by
  unfold Conn.pumpL
  cases c.x.credit.toNat <;> simp [Conn.pumpF, h]
theorem Conn.pumpL_step {c : Conn} (h : ¬ c.pumpN ≤ 0) : c.pumpL = (c.pumpC.pumpL.1, c.pumpS :: c.pumpC.pumpL.2) := by
  have h1 := c.pumpC_credit
  have hc : 0 < c.x.credit := by unfold Conn.pumpN at h; omega
  unfold Conn.pumpL
  rw [Conn.pumpF_eq c.x.credit.toNat c (c.x.credit.toNat + 1) (Nat.le_refl _) (by omega)]
  simp only [Conn.pumpF]
  rw [if_neg h, Conn.pumpF_eq c.x.credit.toNat c.pumpC c.pumpC.x.credit.toNat (by omega) (Nat.le_refl _)]
theorem Conn.ok_pumpE {c : Conn} (h : c.Ok) : c.pumpE.1.Ok ∧ ∀ g, g ∈ c.pumpE.2 → g.Ok := by
  unfold Conn.pumpE
  split
  · rename_i hw
    obtain ⟨h1, h2, h3, h4, h5, h6, h7⟩ := h.x
    refine ⟨⟨Cs.ok_arm ⟨h1, h2, h3, h4, h5, by simp only; omega, h7⟩, h.s, h.r⟩, fun g hg => ?_⟩
    simp only [List.mem_singleton] at hg
    subst hg
    exact Conn.ok_mk h (by omega) (by unfold Sb.nxt; omega) (by simp) bytes_nil
  · exact ⟨h, fun g hg => by simp at hg⟩
theorem Conn.ok_pump {c : Conn} (h : c.Ok) : c.pump.1.Ok ∧ ∀ g, g ∈ c.pump.2 → g.Ok := by
  unfold Conn.pump
  split
  · have h1 := Conn.ok_pumpF c.x.credit.toNat h
    have h2 := Conn.ok_pumpE h1.1
    refine ⟨h2.1, fun g hg => ?_⟩
    rcases List.mem_append.1 hg with h3 | h3
    · exact h1.2 g h3
    · exact h2.2 g h3
  · exact ⟨h, fun g hg => by simp at hg⟩
theorem arm_shl {n : Int} (h : 0 ≤ n ∧ n ≤ 3) : IntKind.i64.wrap (2 * 2 ^ (min n.toNat IntKind.i64.bits)) = 2 * 2 ^ n.toNat := by
  have : n = 0 ∨ n = 1 ∨ n = 2 ∨ n = 3 := by omega
  rcases this with h | h | h | h <;> subst h <;> decide
theorem flag_ack {f : Int} (h : f = 1 ∨ f = 2 ∨ f = 3 ∨ f = 6) : bAnd .i64 f 2 = if f = 1 then 0 else 2 := by
  rcases h with h | h | h | h <;> subst h <;> decide
theorem mk_one {b : Nat} {c : Conn} {flags seq : Int} {data : List Int} (h : ¬ (if flags = 1 then (0 : Int) else 2) = 0) : (.agg (Sg.enc ⟨0, 0, seq, c.rcvNxt, flags, 16 - c.r.avail, byV b data⟩) : Value) = .agg (segC b (c.mk' flags seq data)).enc := by
  have : ¬ flags = 1 := fun e => h (if_pos e)
  simp only [segC, Conn.mk']; rw [if_neg this]
theorem mk_two {b : Nat} {c : Conn} {flags seq : Int} {data : List Int} (h : (if flags = 1 then (0 : Int) else 2) = 0) : (.agg (Sg.enc ⟨0, 0, seq, 0, flags, 16 - c.r.avail, byV b data⟩) : Value) = .agg (segC b (c.mk' flags seq data)).enc := by
  have : flags = 1 := by split at h; assumption; cases h
  simp only [segC, Conn.mk']; rw [if_pos this]
def segR (xs : List Value) (s : Seg) (g : List Chunk) : Prop := ∃ b, xs = (segC b s).enc.toList ∧ g = byG b s.data 5
theorem segR_plain : ∀ xs a g, segR xs a g → xs.all plainV = true := by
  rintro xs a g ⟨b, rfl, _⟩; rfl
theorem segR.mk {b : Nat} {s : Seg} : segR (segC b s).enc.toList s (byG b s.data 5) := ⟨b, rfl, rfl⟩
def Segs (v : Value) (l : List Seg) (gv gd : List Chunk) : Prop := Lst 178 7 segR v l gv gd
end Go.Proofs.Qxb6500351aGreat
