/- MADE BY PROGRAM (tools/gotypes.py): the struct types of the program as structures over their cells. -/
import Derived.Test.Qxb6500351aGreatEngM
set_option linter.unusedVariables false
set_option maxRecDepth 20000
namespace Go.Proofs.Qxb6500351aGreat
open Go.Eng
def upA {α : Type} (f : Nat → α) (i : Nat) (x : α) (j : Nat) : α := if j = i then x else f j
structure En where
  sd : Int
  kind : Int
  lPort : Int
  rHost : Int
  rPort : Int
  slot : Int
  parent : Int
  ready : Bool
def En.enc (s : En) : Array Value := #[.int .i64 s.sd, .int .i64 s.kind, .int .i64 s.lPort, .int .i64 s.rHost, .int .i64 s.rPort, .int .i64 s.slot, .int .i64 s.parent, .bool s.ready]
theorem En.g0 {v0 : Int} {v1 : Int} {v2 : Int} {v3 : Int} {v4 : Int} {v5 : Int} {v6 : Int} {v7 : Bool} : (En.enc (En.mk v0 v1 v2 v3 v4 v5 v6 v7))[0]? = some (.int .i64 v0) := rfl
theorem En.s0 {v0 : Int} {v1 : Int} {v2 : Int} {v3 : Int} {v4 : Int} {v5 : Int} {v6 : Int} {v7 : Bool} {x : Int} : (En.enc (En.mk v0 v1 v2 v3 v4 v5 v6 v7)).setIfInBounds 0 (.int .i64 x) = En.enc (En.mk x v1 v2 v3 v4 v5 v6 v7) := rfl
theorem En.g1 {v0 : Int} {v1 : Int} {v2 : Int} {v3 : Int} {v4 : Int} {v5 : Int} {v6 : Int} {v7 : Bool} : (En.enc (En.mk v0 v1 v2 v3 v4 v5 v6 v7))[1]? = some (.int .i64 v1) := rfl
theorem En.s1 {v0 : Int} {v1 : Int} {v2 : Int} {v3 : Int} {v4 : Int} {v5 : Int} {v6 : Int} {v7 : Bool} {x : Int} : (En.enc (En.mk v0 v1 v2 v3 v4 v5 v6 v7)).setIfInBounds 1 (.int .i64 x) = En.enc (En.mk v0 x v2 v3 v4 v5 v6 v7) := rfl
theorem En.g2 {v0 : Int} {v1 : Int} {v2 : Int} {v3 : Int} {v4 : Int} {v5 : Int} {v6 : Int} {v7 : Bool} : (En.enc (En.mk v0 v1 v2 v3 v4 v5 v6 v7))[2]? = some (.int .i64 v2) := rfl
theorem En.s2 {v0 : Int} {v1 : Int} {v2 : Int} {v3 : Int} {v4 : Int} {v5 : Int} {v6 : Int} {v7 : Bool} {x : Int} : (En.enc (En.mk v0 v1 v2 v3 v4 v5 v6 v7)).setIfInBounds 2 (.int .i64 x) = En.enc (En.mk v0 v1 x v3 v4 v5 v6 v7) := rfl
theorem En.g3 {v0 : Int} {v1 : Int} {v2 : Int} {v3 : Int} {v4 : Int} {v5 : Int} {v6 : Int} {v7 : Bool} : (En.enc (En.mk v0 v1 v2 v3 v4 v5 v6 v7))[3]? = some (.int .i64 v3) := rfl
theorem En.s3 {v0 : Int} {v1 : Int} {v2 : Int} {v3 : Int} {v4 : Int} {v5 : Int} {v6 : Int} {v7 : Bool} {x : Int} : (En.enc (En.mk v0 v1 v2 v3 v4 v5 v6 v7)).setIfInBounds 3 (.int .i64 x) = En.enc (En.mk v0 v1 v2 x v4 v5 v6 v7) := rfl
theorem En.g4 {v0 : Int} {v1 : Int} {v2 : Int} {v3 : Int} {v4 : Int} {v5 : Int} {v6 : Int} {v7 : Bool} : (En.enc (En.mk v0 v1 v2 v3 v4 v5 v6 v7))[4]? = some (.int .i64 v4) := rfl
theorem En.s4 {v0 : Int} {v1 : Int} {v2 : Int} {v3 : Int} {v4 : Int} {v5 : Int} {v6 : Int} {v7 : Bool} {x : Int} : (En.enc (En.mk v0 v1 v2 v3 v4 v5 v6 v7)).setIfInBounds 4 (.int .i64 x) = En.enc (En.mk v0 v1 v2 v3 x v5 v6 v7) := rfl
theorem En.g5 {v0 : Int} {v1 : Int} {v2 : Int} {v3 : Int} {v4 : Int} {v5 : Int} {v6 : Int} {v7 : Bool} : (En.enc (En.mk v0 v1 v2 v3 v4 v5 v6 v7))[5]? = some (.int .i64 v5) := rfl
theorem En.s5 {v0 : Int} {v1 : Int} {v2 : Int} {v3 : Int} {v4 : Int} {v5 : Int} {v6 : Int} {v7 : Bool} {x : Int} : (En.enc (En.mk v0 v1 v2 v3 v4 v5 v6 v7)).setIfInBounds 5 (.int .i64 x) = En.enc (En.mk v0 v1 v2 v3 v4 x v6 v7) := rfl
theorem En.g6 {v0 : Int} {v1 : Int} {v2 : Int} {v3 : Int} {v4 : Int} {v5 : Int} {v6 : Int} {v7 : Bool} : (En.enc (En.mk v0 v1 v2 v3 v4 v5 v6 v7))[6]? = some (.int .i64 v6) := rfl
theorem En.s6 {v0 : Int} {v1 : Int} {v2 : Int} {v3 : Int} {v4 : Int} {v5 : Int} {v6 : Int} {v7 : Bool} {x : Int} : (En.enc (En.mk v0 v1 v2 v3 v4 v5 v6 v7)).setIfInBounds 6 (.int .i64 x) = En.enc (En.mk v0 v1 v2 v3 v4 v5 x v7) := rfl
theorem En.g7 {v0 : Int} {v1 : Int} {v2 : Int} {v3 : Int} {v4 : Int} {v5 : Int} {v6 : Int} {v7 : Bool} : (En.enc (En.mk v0 v1 v2 v3 v4 v5 v6 v7))[7]? = some (.bool v7) := rfl
theorem En.s7 {v0 : Int} {v1 : Int} {v2 : Int} {v3 : Int} {v4 : Int} {v5 : Int} {v6 : Int} {v7 : Bool} {x : Bool} : (En.enc (En.mk v0 v1 v2 v3 v4 v5 v6 v7)).setIfInBounds 7 (.bool x) = En.enc (En.mk v0 v1 v2 v3 v4 v5 v6 x) := rfl
theorem En.size {s : En} : s.enc.size = 8 := rfl
def En.zero : En := { sd := 0, kind := 0, lPort := 0, rHost := 0, rPort := 0, slot := 0, parent := 0, ready := false }

structure Sb where
  ring : (Nat → Int)
  head : Int
  count : Int
  sent : Int
  una : Int
def Sb.enc (s : Sb) : Array Value := #[.int .u8 (s.ring 0), .int .u8 (s.ring 1), .int .u8 (s.ring 2), .int .u8 (s.ring 3), .int .u8 (s.ring 4), .int .u8 (s.ring 5), .int .u8 (s.ring 6), .int .u8 (s.ring 7), .int .u8 (s.ring 8), .int .u8 (s.ring 9), .int .u8 (s.ring 10), .int .u8 (s.ring 11), .int .u8 (s.ring 12), .int .u8 (s.ring 13), .int .u8 (s.ring 14), .int .u8 (s.ring 15), .int .i64 s.head, .int .i64 s.count, .int .i64 s.sent, .int .u8 s.una]
theorem Sb.g16 {v0 : (Nat → Int)} {v1 : Int} {v2 : Int} {v3 : Int} {v4 : Int} : (Sb.enc (Sb.mk v0 v1 v2 v3 v4))[16]? = some (.int .i64 v1) := rfl
theorem Sb.s16 {v0 : (Nat → Int)} {v1 : Int} {v2 : Int} {v3 : Int} {v4 : Int} {x : Int} : (Sb.enc (Sb.mk v0 v1 v2 v3 v4)).setIfInBounds 16 (.int .i64 x) = Sb.enc (Sb.mk v0 x v2 v3 v4) := rfl
theorem Sb.g17 {v0 : (Nat → Int)} {v1 : Int} {v2 : Int} {v3 : Int} {v4 : Int} : (Sb.enc (Sb.mk v0 v1 v2 v3 v4))[17]? = some (.int .i64 v2) := rfl
theorem Sb.s17 {v0 : (Nat → Int)} {v1 : Int} {v2 : Int} {v3 : Int} {v4 : Int} {x : Int} : (Sb.enc (Sb.mk v0 v1 v2 v3 v4)).setIfInBounds 17 (.int .i64 x) = Sb.enc (Sb.mk v0 v1 x v3 v4) := rfl
theorem Sb.g18 {v0 : (Nat → Int)} {v1 : Int} {v2 : Int} {v3 : Int} {v4 : Int} : (Sb.enc (Sb.mk v0 v1 v2 v3 v4))[18]? = some (.int .i64 v3) := rfl
theorem Sb.s18 {v0 : (Nat → Int)} {v1 : Int} {v2 : Int} {v3 : Int} {v4 : Int} {x : Int} : (Sb.enc (Sb.mk v0 v1 v2 v3 v4)).setIfInBounds 18 (.int .i64 x) = Sb.enc (Sb.mk v0 v1 v2 x v4) := rfl
theorem Sb.g19 {v0 : (Nat → Int)} {v1 : Int} {v2 : Int} {v3 : Int} {v4 : Int} : (Sb.enc (Sb.mk v0 v1 v2 v3 v4))[19]? = some (.int .u8 v4) := rfl
theorem Sb.s19 {v0 : (Nat → Int)} {v1 : Int} {v2 : Int} {v3 : Int} {v4 : Int} {x : Int} : (Sb.enc (Sb.mk v0 v1 v2 v3 v4)).setIfInBounds 19 (.int .u8 x) = Sb.enc (Sb.mk v0 v1 v2 v3 x) := rfl
theorem Sb.size {s : Sb} : s.enc.size = 20 := rfl
def Sb.zero : Sb := { ring := (fun _ => 0), head := 0, count := 0, sent := 0, una := 0 }
theorem Sb.g_ring {s : Sb} {o : Nat} (i : Nat) (hi : i < 16) (ho : o = 0 + i * 1) : s.enc[o]? = some (.int .u8 (s.ring i)) := by
  subst ho
  have qi : i = 0 ∨ i = 1 ∨ i = 2 ∨ i = 3 ∨ i = 4 ∨ i = 5 ∨ i = 6 ∨ i = 7 ∨ i = 8 ∨ i = 9 ∨ i = 10 ∨ i = 11 ∨ i = 12 ∨ i = 13 ∨ i = 14 ∨ i = 15 := by omega
  rcases qi with rfl | rfl | rfl | rfl | rfl | rfl | rfl | rfl | rfl | rfl | rfl | rfl | rfl | rfl | rfl | rfl <;> rfl
theorem Sb.s_ring {s : Sb} {x : Int} {o : Nat} (i : Nat) (hi : i < 16) (ho : o = 0 + i * 1) : s.enc.setIfInBounds o (.int .u8 x) = ({ s with ring := (upA s.ring i x) } : Sb).enc := by
  subst ho
  have qi : i = 0 ∨ i = 1 ∨ i = 2 ∨ i = 3 ∨ i = 4 ∨ i = 5 ∨ i = 6 ∨ i = 7 ∨ i = 8 ∨ i = 9 ∨ i = 10 ∨ i = 11 ∨ i = 12 ∨ i = 13 ∨ i = 14 ∨ i = 15 := by omega
  rcases qi with rfl | rfl | rfl | rfl | rfl | rfl | rfl | rfl | rfl | rfl | rfl | rfl | rfl | rfl | rfl | rfl <;> rfl
structure Rb where
  ring : (Nat → Int)
  nxt : Int
  avail : Int
  ahead : Int
def Rb.enc (s : Rb) : Array Value := #[.int .u8 (s.ring 0), .int .u8 (s.ring 1), .int .u8 (s.ring 2), .int .u8 (s.ring 3), .int .u8 (s.ring 4), .int .u8 (s.ring 5), .int .u8 (s.ring 6), .int .u8 (s.ring 7), .int .u8 (s.ring 8), .int .u8 (s.ring 9), .int .u8 (s.ring 10), .int .u8 (s.ring 11), .int .u8 (s.ring 12), .int .u8 (s.ring 13), .int .u8 (s.ring 14), .int .u8 (s.ring 15), .int .u8 s.nxt, .int .i64 s.avail, .int .u16 s.ahead]
theorem Rb.g16 {v0 : (Nat → Int)} {v1 : Int} {v2 : Int} {v3 : Int} : (Rb.enc (Rb.mk v0 v1 v2 v3))[16]? = some (.int .u8 v1) := rfl
theorem Rb.s16 {v0 : (Nat → Int)} {v1 : Int} {v2 : Int} {v3 : Int} {x : Int} : (Rb.enc (Rb.mk v0 v1 v2 v3)).setIfInBounds 16 (.int .u8 x) = Rb.enc (Rb.mk v0 x v2 v3) := rfl
theorem Rb.g17 {v0 : (Nat → Int)} {v1 : Int} {v2 : Int} {v3 : Int} : (Rb.enc (Rb.mk v0 v1 v2 v3))[17]? = some (.int .i64 v2) := rfl
theorem Rb.s17 {v0 : (Nat → Int)} {v1 : Int} {v2 : Int} {v3 : Int} {x : Int} : (Rb.enc (Rb.mk v0 v1 v2 v3)).setIfInBounds 17 (.int .i64 x) = Rb.enc (Rb.mk v0 v1 x v3) := rfl
theorem Rb.g18 {v0 : (Nat → Int)} {v1 : Int} {v2 : Int} {v3 : Int} : (Rb.enc (Rb.mk v0 v1 v2 v3))[18]? = some (.int .u16 v3) := rfl
theorem Rb.s18 {v0 : (Nat → Int)} {v1 : Int} {v2 : Int} {v3 : Int} {x : Int} : (Rb.enc (Rb.mk v0 v1 v2 v3)).setIfInBounds 18 (.int .u16 x) = Rb.enc (Rb.mk v0 v1 v2 x) := rfl
theorem Rb.size {s : Rb} : s.enc.size = 19 := rfl
def Rb.zero : Rb := { ring := (fun _ => 0), nxt := 0, avail := 0, ahead := 0 }
theorem Rb.g_ring {s : Rb} {o : Nat} (i : Nat) (hi : i < 16) (ho : o = 0 + i * 1) : s.enc[o]? = some (.int .u8 (s.ring i)) := by
  subst ho
  have qi : i = 0 ∨ i = 1 ∨ i = 2 ∨ i = 3 ∨ i = 4 ∨ i = 5 ∨ i = 6 ∨ i = 7 ∨ i = 8 ∨ i = 9 ∨ i = 10 ∨ i = 11 ∨ i = 12 ∨ i = 13 ∨ i = 14 ∨ i = 15 := by omega
  rcases qi with rfl | rfl | rfl | rfl | rfl | rfl | rfl | rfl | rfl | rfl | rfl | rfl | rfl | rfl | rfl | rfl <;> rfl
theorem Rb.s_ring {s : Rb} {x : Int} {o : Nat} (i : Nat) (hi : i < 16) (ho : o = 0 + i * 1) : s.enc.setIfInBounds o (.int .u8 x) = ({ s with ring := (upA s.ring i x) } : Rb).enc := by
  subst ho
  have qi : i = 0 ∨ i = 1 ∨ i = 2 ∨ i = 3 ∨ i = 4 ∨ i = 5 ∨ i = 6 ∨ i = 7 ∨ i = 8 ∨ i = 9 ∨ i = 10 ∨ i = 11 ∨ i = 12 ∨ i = 13 ∨ i = 14 ∨ i = 15 := by omega
  rcases qi with rfl | rfl | rfl | rfl | rfl | rfl | rfl | rfl | rfl | rfl | rfl | rfl | rfl | rfl | rfl | rfl <;> rfl
structure Cn where
  sb : Value
  rb : Value
  st : Int
  why : Int
  weClosed : Bool
  finSent : Bool
  finAcked : Bool
  peerFin : Bool
  iss : Int
  peerWnd : Int
  timer : Int
  retries : Int
  credit : Int
  quiet : Int
def Cn.enc (s : Cn) : Array Value := #[s.sb, s.rb, .int .i64 s.st, .int .i64 s.why, .bool s.weClosed, .bool s.finSent, .bool s.finAcked, .bool s.peerFin, .int .i64 s.iss, .int .i64 s.peerWnd, .int .i64 s.timer, .int .i64 s.retries, .int .i64 s.credit, .int .i64 s.quiet]
theorem Cn.g0 {v0 : Value} {v1 : Value} {v2 : Int} {v3 : Int} {v4 : Bool} {v5 : Bool} {v6 : Bool} {v7 : Bool} {v8 : Int} {v9 : Int} {v10 : Int} {v11 : Int} {v12 : Int} {v13 : Int} : (Cn.enc (Cn.mk v0 v1 v2 v3 v4 v5 v6 v7 v8 v9 v10 v11 v12 v13))[0]? = some v0 := rfl
theorem Cn.s0 {v0 : Value} {v1 : Value} {v2 : Int} {v3 : Int} {v4 : Bool} {v5 : Bool} {v6 : Bool} {v7 : Bool} {v8 : Int} {v9 : Int} {v10 : Int} {v11 : Int} {v12 : Int} {v13 : Int} {x : Value} : (Cn.enc (Cn.mk v0 v1 v2 v3 v4 v5 v6 v7 v8 v9 v10 v11 v12 v13)).setIfInBounds 0 x = Cn.enc (Cn.mk x v1 v2 v3 v4 v5 v6 v7 v8 v9 v10 v11 v12 v13) := rfl
theorem Cn.g1 {v0 : Value} {v1 : Value} {v2 : Int} {v3 : Int} {v4 : Bool} {v5 : Bool} {v6 : Bool} {v7 : Bool} {v8 : Int} {v9 : Int} {v10 : Int} {v11 : Int} {v12 : Int} {v13 : Int} : (Cn.enc (Cn.mk v0 v1 v2 v3 v4 v5 v6 v7 v8 v9 v10 v11 v12 v13))[1]? = some v1 := rfl
theorem Cn.s1 {v0 : Value} {v1 : Value} {v2 : Int} {v3 : Int} {v4 : Bool} {v5 : Bool} {v6 : Bool} {v7 : Bool} {v8 : Int} {v9 : Int} {v10 : Int} {v11 : Int} {v12 : Int} {v13 : Int} {x : Value} : (Cn.enc (Cn.mk v0 v1 v2 v3 v4 v5 v6 v7 v8 v9 v10 v11 v12 v13)).setIfInBounds 1 x = Cn.enc (Cn.mk v0 x v2 v3 v4 v5 v6 v7 v8 v9 v10 v11 v12 v13) := rfl
theorem Cn.g2 {v0 : Value} {v1 : Value} {v2 : Int} {v3 : Int} {v4 : Bool} {v5 : Bool} {v6 : Bool} {v7 : Bool} {v8 : Int} {v9 : Int} {v10 : Int} {v11 : Int} {v12 : Int} {v13 : Int} : (Cn.enc (Cn.mk v0 v1 v2 v3 v4 v5 v6 v7 v8 v9 v10 v11 v12 v13))[2]? = some (.int .i64 v2) := rfl
theorem Cn.s2 {v0 : Value} {v1 : Value} {v2 : Int} {v3 : Int} {v4 : Bool} {v5 : Bool} {v6 : Bool} {v7 : Bool} {v8 : Int} {v9 : Int} {v10 : Int} {v11 : Int} {v12 : Int} {v13 : Int} {x : Int} : (Cn.enc (Cn.mk v0 v1 v2 v3 v4 v5 v6 v7 v8 v9 v10 v11 v12 v13)).setIfInBounds 2 (.int .i64 x) = Cn.enc (Cn.mk v0 v1 x v3 v4 v5 v6 v7 v8 v9 v10 v11 v12 v13) := rfl
theorem Cn.g3 {v0 : Value} {v1 : Value} {v2 : Int} {v3 : Int} {v4 : Bool} {v5 : Bool} {v6 : Bool} {v7 : Bool} {v8 : Int} {v9 : Int} {v10 : Int} {v11 : Int} {v12 : Int} {v13 : Int} : (Cn.enc (Cn.mk v0 v1 v2 v3 v4 v5 v6 v7 v8 v9 v10 v11 v12 v13))[3]? = some (.int .i64 v3) := rfl
theorem Cn.s3 {v0 : Value} {v1 : Value} {v2 : Int} {v3 : Int} {v4 : Bool} {v5 : Bool} {v6 : Bool} {v7 : Bool} {v8 : Int} {v9 : Int} {v10 : Int} {v11 : Int} {v12 : Int} {v13 : Int} {x : Int} : (Cn.enc (Cn.mk v0 v1 v2 v3 v4 v5 v6 v7 v8 v9 v10 v11 v12 v13)).setIfInBounds 3 (.int .i64 x) = Cn.enc (Cn.mk v0 v1 v2 x v4 v5 v6 v7 v8 v9 v10 v11 v12 v13) := rfl
theorem Cn.g4 {v0 : Value} {v1 : Value} {v2 : Int} {v3 : Int} {v4 : Bool} {v5 : Bool} {v6 : Bool} {v7 : Bool} {v8 : Int} {v9 : Int} {v10 : Int} {v11 : Int} {v12 : Int} {v13 : Int} : (Cn.enc (Cn.mk v0 v1 v2 v3 v4 v5 v6 v7 v8 v9 v10 v11 v12 v13))[4]? = some (.bool v4) := rfl
theorem Cn.s4 {v0 : Value} {v1 : Value} {v2 : Int} {v3 : Int} {v4 : Bool} {v5 : Bool} {v6 : Bool} {v7 : Bool} {v8 : Int} {v9 : Int} {v10 : Int} {v11 : Int} {v12 : Int} {v13 : Int} {x : Bool} : (Cn.enc (Cn.mk v0 v1 v2 v3 v4 v5 v6 v7 v8 v9 v10 v11 v12 v13)).setIfInBounds 4 (.bool x) = Cn.enc (Cn.mk v0 v1 v2 v3 x v5 v6 v7 v8 v9 v10 v11 v12 v13) := rfl
theorem Cn.g5 {v0 : Value} {v1 : Value} {v2 : Int} {v3 : Int} {v4 : Bool} {v5 : Bool} {v6 : Bool} {v7 : Bool} {v8 : Int} {v9 : Int} {v10 : Int} {v11 : Int} {v12 : Int} {v13 : Int} : (Cn.enc (Cn.mk v0 v1 v2 v3 v4 v5 v6 v7 v8 v9 v10 v11 v12 v13))[5]? = some (.bool v5) := rfl
theorem Cn.s5 {v0 : Value} {v1 : Value} {v2 : Int} {v3 : Int} {v4 : Bool} {v5 : Bool} {v6 : Bool} {v7 : Bool} {v8 : Int} {v9 : Int} {v10 : Int} {v11 : Int} {v12 : Int} {v13 : Int} {x : Bool} : (Cn.enc (Cn.mk v0 v1 v2 v3 v4 v5 v6 v7 v8 v9 v10 v11 v12 v13)).setIfInBounds 5 (.bool x) = Cn.enc (Cn.mk v0 v1 v2 v3 v4 x v6 v7 v8 v9 v10 v11 v12 v13) := rfl
theorem Cn.g6 {v0 : Value} {v1 : Value} {v2 : Int} {v3 : Int} {v4 : Bool} {v5 : Bool} {v6 : Bool} {v7 : Bool} {v8 : Int} {v9 : Int} {v10 : Int} {v11 : Int} {v12 : Int} {v13 : Int} : (Cn.enc (Cn.mk v0 v1 v2 v3 v4 v5 v6 v7 v8 v9 v10 v11 v12 v13))[6]? = some (.bool v6) := rfl
theorem Cn.s6 {v0 : Value} {v1 : Value} {v2 : Int} {v3 : Int} {v4 : Bool} {v5 : Bool} {v6 : Bool} {v7 : Bool} {v8 : Int} {v9 : Int} {v10 : Int} {v11 : Int} {v12 : Int} {v13 : Int} {x : Bool} : (Cn.enc (Cn.mk v0 v1 v2 v3 v4 v5 v6 v7 v8 v9 v10 v11 v12 v13)).setIfInBounds 6 (.bool x) = Cn.enc (Cn.mk v0 v1 v2 v3 v4 v5 x v7 v8 v9 v10 v11 v12 v13) := rfl
theorem Cn.g7 {v0 : Value} {v1 : Value} {v2 : Int} {v3 : Int} {v4 : Bool} {v5 : Bool} {v6 : Bool} {v7 : Bool} {v8 : Int} {v9 : Int} {v10 : Int} {v11 : Int} {v12 : Int} {v13 : Int} : (Cn.enc (Cn.mk v0 v1 v2 v3 v4 v5 v6 v7 v8 v9 v10 v11 v12 v13))[7]? = some (.bool v7) := rfl
theorem Cn.s7 {v0 : Value} {v1 : Value} {v2 : Int} {v3 : Int} {v4 : Bool} {v5 : Bool} {v6 : Bool} {v7 : Bool} {v8 : Int} {v9 : Int} {v10 : Int} {v11 : Int} {v12 : Int} {v13 : Int} {x : Bool} : (Cn.enc (Cn.mk v0 v1 v2 v3 v4 v5 v6 v7 v8 v9 v10 v11 v12 v13)).setIfInBounds 7 (.bool x) = Cn.enc (Cn.mk v0 v1 v2 v3 v4 v5 v6 x v8 v9 v10 v11 v12 v13) := rfl
theorem Cn.g8 {v0 : Value} {v1 : Value} {v2 : Int} {v3 : Int} {v4 : Bool} {v5 : Bool} {v6 : Bool} {v7 : Bool} {v8 : Int} {v9 : Int} {v10 : Int} {v11 : Int} {v12 : Int} {v13 : Int} : (Cn.enc (Cn.mk v0 v1 v2 v3 v4 v5 v6 v7 v8 v9 v10 v11 v12 v13))[8]? = some (.int .i64 v8) := rfl
theorem Cn.s8 {v0 : Value} {v1 : Value} {v2 : Int} {v3 : Int} {v4 : Bool} {v5 : Bool} {v6 : Bool} {v7 : Bool} {v8 : Int} {v9 : Int} {v10 : Int} {v11 : Int} {v12 : Int} {v13 : Int} {x : Int} : (Cn.enc (Cn.mk v0 v1 v2 v3 v4 v5 v6 v7 v8 v9 v10 v11 v12 v13)).setIfInBounds 8 (.int .i64 x) = Cn.enc (Cn.mk v0 v1 v2 v3 v4 v5 v6 v7 x v9 v10 v11 v12 v13) := rfl
theorem Cn.g9 {v0 : Value} {v1 : Value} {v2 : Int} {v3 : Int} {v4 : Bool} {v5 : Bool} {v6 : Bool} {v7 : Bool} {v8 : Int} {v9 : Int} {v10 : Int} {v11 : Int} {v12 : Int} {v13 : Int} : (Cn.enc (Cn.mk v0 v1 v2 v3 v4 v5 v6 v7 v8 v9 v10 v11 v12 v13))[9]? = some (.int .i64 v9) := rfl
theorem Cn.s9 {v0 : Value} {v1 : Value} {v2 : Int} {v3 : Int} {v4 : Bool} {v5 : Bool} {v6 : Bool} {v7 : Bool} {v8 : Int} {v9 : Int} {v10 : Int} {v11 : Int} {v12 : Int} {v13 : Int} {x : Int} : (Cn.enc (Cn.mk v0 v1 v2 v3 v4 v5 v6 v7 v8 v9 v10 v11 v12 v13)).setIfInBounds 9 (.int .i64 x) = Cn.enc (Cn.mk v0 v1 v2 v3 v4 v5 v6 v7 v8 x v10 v11 v12 v13) := rfl
theorem Cn.g10 {v0 : Value} {v1 : Value} {v2 : Int} {v3 : Int} {v4 : Bool} {v5 : Bool} {v6 : Bool} {v7 : Bool} {v8 : Int} {v9 : Int} {v10 : Int} {v11 : Int} {v12 : Int} {v13 : Int} : (Cn.enc (Cn.mk v0 v1 v2 v3 v4 v5 v6 v7 v8 v9 v10 v11 v12 v13))[10]? = some (.int .i64 v10) := rfl
theorem Cn.s10 {v0 : Value} {v1 : Value} {v2 : Int} {v3 : Int} {v4 : Bool} {v5 : Bool} {v6 : Bool} {v7 : Bool} {v8 : Int} {v9 : Int} {v10 : Int} {v11 : Int} {v12 : Int} {v13 : Int} {x : Int} : (Cn.enc (Cn.mk v0 v1 v2 v3 v4 v5 v6 v7 v8 v9 v10 v11 v12 v13)).setIfInBounds 10 (.int .i64 x) = Cn.enc (Cn.mk v0 v1 v2 v3 v4 v5 v6 v7 v8 v9 x v11 v12 v13) := rfl
theorem Cn.g11 {v0 : Value} {v1 : Value} {v2 : Int} {v3 : Int} {v4 : Bool} {v5 : Bool} {v6 : Bool} {v7 : Bool} {v8 : Int} {v9 : Int} {v10 : Int} {v11 : Int} {v12 : Int} {v13 : Int} : (Cn.enc (Cn.mk v0 v1 v2 v3 v4 v5 v6 v7 v8 v9 v10 v11 v12 v13))[11]? = some (.int .i64 v11) := rfl
theorem Cn.s11 {v0 : Value} {v1 : Value} {v2 : Int} {v3 : Int} {v4 : Bool} {v5 : Bool} {v6 : Bool} {v7 : Bool} {v8 : Int} {v9 : Int} {v10 : Int} {v11 : Int} {v12 : Int} {v13 : Int} {x : Int} : (Cn.enc (Cn.mk v0 v1 v2 v3 v4 v5 v6 v7 v8 v9 v10 v11 v12 v13)).setIfInBounds 11 (.int .i64 x) = Cn.enc (Cn.mk v0 v1 v2 v3 v4 v5 v6 v7 v8 v9 v10 x v12 v13) := rfl
theorem Cn.g12 {v0 : Value} {v1 : Value} {v2 : Int} {v3 : Int} {v4 : Bool} {v5 : Bool} {v6 : Bool} {v7 : Bool} {v8 : Int} {v9 : Int} {v10 : Int} {v11 : Int} {v12 : Int} {v13 : Int} : (Cn.enc (Cn.mk v0 v1 v2 v3 v4 v5 v6 v7 v8 v9 v10 v11 v12 v13))[12]? = some (.int .i64 v12) := rfl
theorem Cn.s12 {v0 : Value} {v1 : Value} {v2 : Int} {v3 : Int} {v4 : Bool} {v5 : Bool} {v6 : Bool} {v7 : Bool} {v8 : Int} {v9 : Int} {v10 : Int} {v11 : Int} {v12 : Int} {v13 : Int} {x : Int} : (Cn.enc (Cn.mk v0 v1 v2 v3 v4 v5 v6 v7 v8 v9 v10 v11 v12 v13)).setIfInBounds 12 (.int .i64 x) = Cn.enc (Cn.mk v0 v1 v2 v3 v4 v5 v6 v7 v8 v9 v10 v11 x v13) := rfl
theorem Cn.g13 {v0 : Value} {v1 : Value} {v2 : Int} {v3 : Int} {v4 : Bool} {v5 : Bool} {v6 : Bool} {v7 : Bool} {v8 : Int} {v9 : Int} {v10 : Int} {v11 : Int} {v12 : Int} {v13 : Int} : (Cn.enc (Cn.mk v0 v1 v2 v3 v4 v5 v6 v7 v8 v9 v10 v11 v12 v13))[13]? = some (.int .i64 v13) := rfl
theorem Cn.s13 {v0 : Value} {v1 : Value} {v2 : Int} {v3 : Int} {v4 : Bool} {v5 : Bool} {v6 : Bool} {v7 : Bool} {v8 : Int} {v9 : Int} {v10 : Int} {v11 : Int} {v12 : Int} {v13 : Int} {x : Int} : (Cn.enc (Cn.mk v0 v1 v2 v3 v4 v5 v6 v7 v8 v9 v10 v11 v12 v13)).setIfInBounds 13 (.int .i64 x) = Cn.enc (Cn.mk v0 v1 v2 v3 v4 v5 v6 v7 v8 v9 v10 v11 v12 x) := rfl
theorem Cn.size {s : Cn} : s.enc.size = 14 := rfl
def Cn.zero : Cn := { sb := (.pointer none), rb := (.pointer none), st := 0, why := 0, weClosed := false, finSent := false, finAcked := false, peerFin := false, iss := 0, peerWnd := 0, timer := 0, retries := 0, credit := 0, quiet := 0 }

structure Sg where
  srcPort : Int
  dstPort : Int
  seq : Int
  ack : Int
  flags : Int
  wnd : Int
  data : Value
def Sg.enc (s : Sg) : Array Value := #[.int .i64 s.srcPort, .int .i64 s.dstPort, .int .i64 s.seq, .int .i64 s.ack, .int .i64 s.flags, .int .i64 s.wnd, s.data]
theorem Sg.g0 {v0 : Int} {v1 : Int} {v2 : Int} {v3 : Int} {v4 : Int} {v5 : Int} {v6 : Value} : (Sg.enc (Sg.mk v0 v1 v2 v3 v4 v5 v6))[0]? = some (.int .i64 v0) := rfl
theorem Sg.s0 {v0 : Int} {v1 : Int} {v2 : Int} {v3 : Int} {v4 : Int} {v5 : Int} {v6 : Value} {x : Int} : (Sg.enc (Sg.mk v0 v1 v2 v3 v4 v5 v6)).setIfInBounds 0 (.int .i64 x) = Sg.enc (Sg.mk x v1 v2 v3 v4 v5 v6) := rfl
theorem Sg.g1 {v0 : Int} {v1 : Int} {v2 : Int} {v3 : Int} {v4 : Int} {v5 : Int} {v6 : Value} : (Sg.enc (Sg.mk v0 v1 v2 v3 v4 v5 v6))[1]? = some (.int .i64 v1) := rfl
theorem Sg.s1 {v0 : Int} {v1 : Int} {v2 : Int} {v3 : Int} {v4 : Int} {v5 : Int} {v6 : Value} {x : Int} : (Sg.enc (Sg.mk v0 v1 v2 v3 v4 v5 v6)).setIfInBounds 1 (.int .i64 x) = Sg.enc (Sg.mk v0 x v2 v3 v4 v5 v6) := rfl
theorem Sg.g2 {v0 : Int} {v1 : Int} {v2 : Int} {v3 : Int} {v4 : Int} {v5 : Int} {v6 : Value} : (Sg.enc (Sg.mk v0 v1 v2 v3 v4 v5 v6))[2]? = some (.int .i64 v2) := rfl
theorem Sg.s2 {v0 : Int} {v1 : Int} {v2 : Int} {v3 : Int} {v4 : Int} {v5 : Int} {v6 : Value} {x : Int} : (Sg.enc (Sg.mk v0 v1 v2 v3 v4 v5 v6)).setIfInBounds 2 (.int .i64 x) = Sg.enc (Sg.mk v0 v1 x v3 v4 v5 v6) := rfl
theorem Sg.g3 {v0 : Int} {v1 : Int} {v2 : Int} {v3 : Int} {v4 : Int} {v5 : Int} {v6 : Value} : (Sg.enc (Sg.mk v0 v1 v2 v3 v4 v5 v6))[3]? = some (.int .i64 v3) := rfl
theorem Sg.s3 {v0 : Int} {v1 : Int} {v2 : Int} {v3 : Int} {v4 : Int} {v5 : Int} {v6 : Value} {x : Int} : (Sg.enc (Sg.mk v0 v1 v2 v3 v4 v5 v6)).setIfInBounds 3 (.int .i64 x) = Sg.enc (Sg.mk v0 v1 v2 x v4 v5 v6) := rfl
theorem Sg.g4 {v0 : Int} {v1 : Int} {v2 : Int} {v3 : Int} {v4 : Int} {v5 : Int} {v6 : Value} : (Sg.enc (Sg.mk v0 v1 v2 v3 v4 v5 v6))[4]? = some (.int .i64 v4) := rfl
theorem Sg.s4 {v0 : Int} {v1 : Int} {v2 : Int} {v3 : Int} {v4 : Int} {v5 : Int} {v6 : Value} {x : Int} : (Sg.enc (Sg.mk v0 v1 v2 v3 v4 v5 v6)).setIfInBounds 4 (.int .i64 x) = Sg.enc (Sg.mk v0 v1 v2 v3 x v5 v6) := rfl
theorem Sg.g5 {v0 : Int} {v1 : Int} {v2 : Int} {v3 : Int} {v4 : Int} {v5 : Int} {v6 : Value} : (Sg.enc (Sg.mk v0 v1 v2 v3 v4 v5 v6))[5]? = some (.int .i64 v5) := rfl
theorem Sg.s5 {v0 : Int} {v1 : Int} {v2 : Int} {v3 : Int} {v4 : Int} {v5 : Int} {v6 : Value} {x : Int} : (Sg.enc (Sg.mk v0 v1 v2 v3 v4 v5 v6)).setIfInBounds 5 (.int .i64 x) = Sg.enc (Sg.mk v0 v1 v2 v3 v4 x v6) := rfl
theorem Sg.g6 {v0 : Int} {v1 : Int} {v2 : Int} {v3 : Int} {v4 : Int} {v5 : Int} {v6 : Value} : (Sg.enc (Sg.mk v0 v1 v2 v3 v4 v5 v6))[6]? = some v6 := rfl
theorem Sg.s6 {v0 : Int} {v1 : Int} {v2 : Int} {v3 : Int} {v4 : Int} {v5 : Int} {v6 : Value} {x : Value} : (Sg.enc (Sg.mk v0 v1 v2 v3 v4 v5 v6)).setIfInBounds 6 x = Sg.enc (Sg.mk v0 v1 v2 v3 v4 v5 x) := rfl
theorem Sg.size {s : Sg} : s.enc.size = 7 := rfl
def Sg.zero : Sg := { srcPort := 0, dstPort := 0, seq := 0, ack := 0, flags := 0, wnd := 0, data := (.slice none 0 0) }

structure Lk where
  addr : Int
  n : (Nat → Int)
  calls : Int
def Lk.enc (s : Lk) : Array Value := #[.int .u8 s.addr, .int .i64 (s.n 0), .int .i64 (s.n 1), .int .i64 (s.n 2), .int .i64 (s.n 3), .int .i64 s.calls]
theorem Lk.g0 {v0 : Int} {v1 : (Nat → Int)} {v2 : Int} : (Lk.enc (Lk.mk v0 v1 v2))[0]? = some (.int .u8 v0) := rfl
theorem Lk.s0 {v0 : Int} {v1 : (Nat → Int)} {v2 : Int} {x : Int} : (Lk.enc (Lk.mk v0 v1 v2)).setIfInBounds 0 (.int .u8 x) = Lk.enc (Lk.mk x v1 v2) := rfl
theorem Lk.g5 {v0 : Int} {v1 : (Nat → Int)} {v2 : Int} : (Lk.enc (Lk.mk v0 v1 v2))[5]? = some (.int .i64 v2) := rfl
theorem Lk.s5 {v0 : Int} {v1 : (Nat → Int)} {v2 : Int} {x : Int} : (Lk.enc (Lk.mk v0 v1 v2)).setIfInBounds 5 (.int .i64 x) = Lk.enc (Lk.mk v0 v1 x) := rfl
theorem Lk.size {s : Lk} : s.enc.size = 6 := rfl
def Lk.zero : Lk := { addr := 0, n := (fun _ => 0), calls := 0 }
theorem Lk.g_n {s : Lk} {o : Nat} (i : Nat) (hi : i < 4) (ho : o = 1 + i * 1) : s.enc[o]? = some (.int .i64 (s.n i)) := by
  subst ho
  have qi : i = 0 ∨ i = 1 ∨ i = 2 ∨ i = 3 := by omega
  rcases qi with rfl | rfl | rfl | rfl <;> rfl
theorem Lk.s_n {s : Lk} {x : Int} {o : Nat} (i : Nat) (hi : i < 4) (ho : o = 1 + i * 1) : s.enc.setIfInBounds o (.int .i64 x) = ({ s with n := (upA s.n i x) } : Lk).enc := by
  subst ho
  have qi : i = 0 ∨ i = 1 ∨ i = 2 ∨ i = 3 := by omega
  rcases qi with rfl | rfl | rfl | rfl <;> rfl
structure Sm where
  a : Int
  s : Int
def Sm.enc (s : Sm) : Array Value := #[.int .u8 s.a, .int .u8 s.s]
theorem Sm.g0 {v0 : Int} {v1 : Int} : (Sm.enc (Sm.mk v0 v1))[0]? = some (.int .u8 v0) := rfl
theorem Sm.s0 {v0 : Int} {v1 : Int} {x : Int} : (Sm.enc (Sm.mk v0 v1)).setIfInBounds 0 (.int .u8 x) = Sm.enc (Sm.mk x v1) := rfl
theorem Sm.g1 {v0 : Int} {v1 : Int} : (Sm.enc (Sm.mk v0 v1))[1]? = some (.int .u8 v1) := rfl
theorem Sm.s1 {v0 : Int} {v1 : Int} {x : Int} : (Sm.enc (Sm.mk v0 v1)).setIfInBounds 1 (.int .u8 x) = Sm.enc (Sm.mk v0 x) := rfl
theorem Sm.size {s : Sm} : s.enc.size = 2 := rfl
def Sm.zero : Sm := { a := 0, s := 0 }

structure Ss where
  a : Int
  s : Int
def Ss.enc (s : Ss) : Array Value := #[.int .u8 s.a, .int .u8 s.s]
theorem Ss.g0 {v0 : Int} {v1 : Int} : (Ss.enc (Ss.mk v0 v1))[0]? = some (.int .u8 v0) := rfl
theorem Ss.s0 {v0 : Int} {v1 : Int} {x : Int} : (Ss.enc (Ss.mk v0 v1)).setIfInBounds 0 (.int .u8 x) = Ss.enc (Ss.mk x v1) := rfl
theorem Ss.g1 {v0 : Int} {v1 : Int} : (Ss.enc (Ss.mk v0 v1))[1]? = some (.int .u8 v1) := rfl
theorem Ss.s1 {v0 : Int} {v1 : Int} {x : Int} : (Ss.enc (Ss.mk v0 v1)).setIfInBounds 1 (.int .u8 x) = Ss.enc (Ss.mk v0 x) := rfl
theorem Ss.size {s : Ss} : s.enc.size = 2 := rfl
def Ss.zero : Ss := { a := 0, s := 0 }

structure Slt where
  used : Bool
  key : Int
  left : Int
  total : Int
  held : Int
  buf : (Nat → Int)
def Slt.enc (s : Slt) : Array Value := #[.bool s.used, .int .i64 s.key, .int .i64 s.left, .int .i64 s.total, .int .u64 s.held, .int .u8 (s.buf 0), .int .u8 (s.buf 1), .int .u8 (s.buf 2), .int .u8 (s.buf 3), .int .u8 (s.buf 4), .int .u8 (s.buf 5), .int .u8 (s.buf 6), .int .u8 (s.buf 7), .int .u8 (s.buf 8), .int .u8 (s.buf 9), .int .u8 (s.buf 10), .int .u8 (s.buf 11), .int .u8 (s.buf 12), .int .u8 (s.buf 13), .int .u8 (s.buf 14), .int .u8 (s.buf 15), .int .u8 (s.buf 16), .int .u8 (s.buf 17), .int .u8 (s.buf 18), .int .u8 (s.buf 19), .int .u8 (s.buf 20), .int .u8 (s.buf 21), .int .u8 (s.buf 22), .int .u8 (s.buf 23), .int .u8 (s.buf 24), .int .u8 (s.buf 25), .int .u8 (s.buf 26), .int .u8 (s.buf 27), .int .u8 (s.buf 28), .int .u8 (s.buf 29), .int .u8 (s.buf 30), .int .u8 (s.buf 31), .int .u8 (s.buf 32), .int .u8 (s.buf 33), .int .u8 (s.buf 34), .int .u8 (s.buf 35), .int .u8 (s.buf 36), .int .u8 (s.buf 37), .int .u8 (s.buf 38), .int .u8 (s.buf 39)]
theorem Slt.g0 {v0 : Bool} {v1 : Int} {v2 : Int} {v3 : Int} {v4 : Int} {v5 : (Nat → Int)} : (Slt.enc (Slt.mk v0 v1 v2 v3 v4 v5))[0]? = some (.bool v0) := rfl
theorem Slt.s0 {v0 : Bool} {v1 : Int} {v2 : Int} {v3 : Int} {v4 : Int} {v5 : (Nat → Int)} {x : Bool} : (Slt.enc (Slt.mk v0 v1 v2 v3 v4 v5)).setIfInBounds 0 (.bool x) = Slt.enc (Slt.mk x v1 v2 v3 v4 v5) := rfl
theorem Slt.g1 {v0 : Bool} {v1 : Int} {v2 : Int} {v3 : Int} {v4 : Int} {v5 : (Nat → Int)} : (Slt.enc (Slt.mk v0 v1 v2 v3 v4 v5))[1]? = some (.int .i64 v1) := rfl
theorem Slt.s1 {v0 : Bool} {v1 : Int} {v2 : Int} {v3 : Int} {v4 : Int} {v5 : (Nat → Int)} {x : Int} : (Slt.enc (Slt.mk v0 v1 v2 v3 v4 v5)).setIfInBounds 1 (.int .i64 x) = Slt.enc (Slt.mk v0 x v2 v3 v4 v5) := rfl
theorem Slt.g2 {v0 : Bool} {v1 : Int} {v2 : Int} {v3 : Int} {v4 : Int} {v5 : (Nat → Int)} : (Slt.enc (Slt.mk v0 v1 v2 v3 v4 v5))[2]? = some (.int .i64 v2) := rfl
theorem Slt.s2 {v0 : Bool} {v1 : Int} {v2 : Int} {v3 : Int} {v4 : Int} {v5 : (Nat → Int)} {x : Int} : (Slt.enc (Slt.mk v0 v1 v2 v3 v4 v5)).setIfInBounds 2 (.int .i64 x) = Slt.enc (Slt.mk v0 v1 x v3 v4 v5) := rfl
theorem Slt.g3 {v0 : Bool} {v1 : Int} {v2 : Int} {v3 : Int} {v4 : Int} {v5 : (Nat → Int)} : (Slt.enc (Slt.mk v0 v1 v2 v3 v4 v5))[3]? = some (.int .i64 v3) := rfl
theorem Slt.s3 {v0 : Bool} {v1 : Int} {v2 : Int} {v3 : Int} {v4 : Int} {v5 : (Nat → Int)} {x : Int} : (Slt.enc (Slt.mk v0 v1 v2 v3 v4 v5)).setIfInBounds 3 (.int .i64 x) = Slt.enc (Slt.mk v0 v1 v2 x v4 v5) := rfl
theorem Slt.g4 {v0 : Bool} {v1 : Int} {v2 : Int} {v3 : Int} {v4 : Int} {v5 : (Nat → Int)} : (Slt.enc (Slt.mk v0 v1 v2 v3 v4 v5))[4]? = some (.int .u64 v4) := rfl
theorem Slt.s4 {v0 : Bool} {v1 : Int} {v2 : Int} {v3 : Int} {v4 : Int} {v5 : (Nat → Int)} {x : Int} : (Slt.enc (Slt.mk v0 v1 v2 v3 v4 v5)).setIfInBounds 4 (.int .u64 x) = Slt.enc (Slt.mk v0 v1 v2 v3 x v5) := rfl
theorem Slt.size {s : Slt} : s.enc.size = 45 := rfl
def Slt.zero : Slt := { used := false, key := 0, left := 0, total := 0, held := 0, buf := (fun _ => 0) }
theorem Slt.g_buf {s : Slt} {o : Nat} (i : Nat) (hi : i < 40) (ho : o = 5 + i * 1) : s.enc[o]? = some (.int .u8 (s.buf i)) := by
  subst ho
  have qi : i = 0 ∨ i = 1 ∨ i = 2 ∨ i = 3 ∨ i = 4 ∨ i = 5 ∨ i = 6 ∨ i = 7 ∨ i = 8 ∨ i = 9 ∨ i = 10 ∨ i = 11 ∨ i = 12 ∨ i = 13 ∨ i = 14 ∨ i = 15 ∨ i = 16 ∨ i = 17 ∨ i = 18 ∨ i = 19 ∨ i = 20 ∨ i = 21 ∨ i = 22 ∨ i = 23 ∨ i = 24 ∨ i = 25 ∨ i = 26 ∨ i = 27 ∨ i = 28 ∨ i = 29 ∨ i = 30 ∨ i = 31 ∨ i = 32 ∨ i = 33 ∨ i = 34 ∨ i = 35 ∨ i = 36 ∨ i = 37 ∨ i = 38 ∨ i = 39 := by omega
  rcases qi with rfl | rfl | rfl | rfl | rfl | rfl | rfl | rfl | rfl | rfl | rfl | rfl | rfl | rfl | rfl | rfl | rfl | rfl | rfl | rfl | rfl | rfl | rfl | rfl | rfl | rfl | rfl | rfl | rfl | rfl | rfl | rfl | rfl | rfl | rfl | rfl | rfl | rfl | rfl | rfl <;> rfl
theorem Slt.s_buf {s : Slt} {x : Int} {o : Nat} (i : Nat) (hi : i < 40) (ho : o = 5 + i * 1) : s.enc.setIfInBounds o (.int .u8 x) = ({ s with buf := (upA s.buf i x) } : Slt).enc := by
  subst ho
  have qi : i = 0 ∨ i = 1 ∨ i = 2 ∨ i = 3 ∨ i = 4 ∨ i = 5 ∨ i = 6 ∨ i = 7 ∨ i = 8 ∨ i = 9 ∨ i = 10 ∨ i = 11 ∨ i = 12 ∨ i = 13 ∨ i = 14 ∨ i = 15 ∨ i = 16 ∨ i = 17 ∨ i = 18 ∨ i = 19 ∨ i = 20 ∨ i = 21 ∨ i = 22 ∨ i = 23 ∨ i = 24 ∨ i = 25 ∨ i = 26 ∨ i = 27 ∨ i = 28 ∨ i = 29 ∨ i = 30 ∨ i = 31 ∨ i = 32 ∨ i = 33 ∨ i = 34 ∨ i = 35 ∨ i = 36 ∨ i = 37 ∨ i = 38 ∨ i = 39 := by omega
  rcases qi with rfl | rfl | rfl | rfl | rfl | rfl | rfl | rfl | rfl | rfl | rfl | rfl | rfl | rfl | rfl | rfl | rfl | rfl | rfl | rfl | rfl | rfl | rfl | rfl | rfl | rfl | rfl | rfl | rfl | rfl | rfl | rfl | rfl | rfl | rfl | rfl | rfl | rfl | rfl | rfl <;> rfl
structure Ipt where
  addr : Int
  nxt_ : Int
  credit : Int
  tab : (Nat → Slt)
def Ipt.enc (s : Ipt) : Array Value := #[.int .i64 s.addr, .int .i64 s.nxt_, .int .i64 s.credit, .bool (s.tab 0).used, .int .i64 (s.tab 0).key, .int .i64 (s.tab 0).left, .int .i64 (s.tab 0).total, .int .u64 (s.tab 0).held, .int .u8 ((s.tab 0).buf 0), .int .u8 ((s.tab 0).buf 1), .int .u8 ((s.tab 0).buf 2), .int .u8 ((s.tab 0).buf 3), .int .u8 ((s.tab 0).buf 4), .int .u8 ((s.tab 0).buf 5), .int .u8 ((s.tab 0).buf 6), .int .u8 ((s.tab 0).buf 7), .int .u8 ((s.tab 0).buf 8), .int .u8 ((s.tab 0).buf 9), .int .u8 ((s.tab 0).buf 10), .int .u8 ((s.tab 0).buf 11), .int .u8 ((s.tab 0).buf 12), .int .u8 ((s.tab 0).buf 13), .int .u8 ((s.tab 0).buf 14), .int .u8 ((s.tab 0).buf 15), .int .u8 ((s.tab 0).buf 16), .int .u8 ((s.tab 0).buf 17), .int .u8 ((s.tab 0).buf 18), .int .u8 ((s.tab 0).buf 19), .int .u8 ((s.tab 0).buf 20), .int .u8 ((s.tab 0).buf 21), .int .u8 ((s.tab 0).buf 22), .int .u8 ((s.tab 0).buf 23), .int .u8 ((s.tab 0).buf 24), .int .u8 ((s.tab 0).buf 25), .int .u8 ((s.tab 0).buf 26), .int .u8 ((s.tab 0).buf 27), .int .u8 ((s.tab 0).buf 28), .int .u8 ((s.tab 0).buf 29), .int .u8 ((s.tab 0).buf 30), .int .u8 ((s.tab 0).buf 31), .int .u8 ((s.tab 0).buf 32), .int .u8 ((s.tab 0).buf 33), .int .u8 ((s.tab 0).buf 34), .int .u8 ((s.tab 0).buf 35), .int .u8 ((s.tab 0).buf 36), .int .u8 ((s.tab 0).buf 37), .int .u8 ((s.tab 0).buf 38), .int .u8 ((s.tab 0).buf 39), .bool (s.tab 1).used, .int .i64 (s.tab 1).key, .int .i64 (s.tab 1).left, .int .i64 (s.tab 1).total, .int .u64 (s.tab 1).held, .int .u8 ((s.tab 1).buf 0), .int .u8 ((s.tab 1).buf 1), .int .u8 ((s.tab 1).buf 2), .int .u8 ((s.tab 1).buf 3), .int .u8 ((s.tab 1).buf 4), .int .u8 ((s.tab 1).buf 5), .int .u8 ((s.tab 1).buf 6), .int .u8 ((s.tab 1).buf 7), .int .u8 ((s.tab 1).buf 8), .int .u8 ((s.tab 1).buf 9), .int .u8 ((s.tab 1).buf 10), .int .u8 ((s.tab 1).buf 11), .int .u8 ((s.tab 1).buf 12), .int .u8 ((s.tab 1).buf 13), .int .u8 ((s.tab 1).buf 14), .int .u8 ((s.tab 1).buf 15), .int .u8 ((s.tab 1).buf 16), .int .u8 ((s.tab 1).buf 17), .int .u8 ((s.tab 1).buf 18), .int .u8 ((s.tab 1).buf 19), .int .u8 ((s.tab 1).buf 20), .int .u8 ((s.tab 1).buf 21), .int .u8 ((s.tab 1).buf 22), .int .u8 ((s.tab 1).buf 23), .int .u8 ((s.tab 1).buf 24), .int .u8 ((s.tab 1).buf 25), .int .u8 ((s.tab 1).buf 26), .int .u8 ((s.tab 1).buf 27), .int .u8 ((s.tab 1).buf 28), .int .u8 ((s.tab 1).buf 29), .int .u8 ((s.tab 1).buf 30), .int .u8 ((s.tab 1).buf 31), .int .u8 ((s.tab 1).buf 32), .int .u8 ((s.tab 1).buf 33), .int .u8 ((s.tab 1).buf 34), .int .u8 ((s.tab 1).buf 35), .int .u8 ((s.tab 1).buf 36), .int .u8 ((s.tab 1).buf 37), .int .u8 ((s.tab 1).buf 38), .int .u8 ((s.tab 1).buf 39), .bool (s.tab 2).used, .int .i64 (s.tab 2).key, .int .i64 (s.tab 2).left, .int .i64 (s.tab 2).total, .int .u64 (s.tab 2).held, .int .u8 ((s.tab 2).buf 0), .int .u8 ((s.tab 2).buf 1), .int .u8 ((s.tab 2).buf 2), .int .u8 ((s.tab 2).buf 3), .int .u8 ((s.tab 2).buf 4), .int .u8 ((s.tab 2).buf 5), .int .u8 ((s.tab 2).buf 6), .int .u8 ((s.tab 2).buf 7), .int .u8 ((s.tab 2).buf 8), .int .u8 ((s.tab 2).buf 9), .int .u8 ((s.tab 2).buf 10), .int .u8 ((s.tab 2).buf 11), .int .u8 ((s.tab 2).buf 12), .int .u8 ((s.tab 2).buf 13), .int .u8 ((s.tab 2).buf 14), .int .u8 ((s.tab 2).buf 15), .int .u8 ((s.tab 2).buf 16), .int .u8 ((s.tab 2).buf 17), .int .u8 ((s.tab 2).buf 18), .int .u8 ((s.tab 2).buf 19), .int .u8 ((s.tab 2).buf 20), .int .u8 ((s.tab 2).buf 21), .int .u8 ((s.tab 2).buf 22), .int .u8 ((s.tab 2).buf 23), .int .u8 ((s.tab 2).buf 24), .int .u8 ((s.tab 2).buf 25), .int .u8 ((s.tab 2).buf 26), .int .u8 ((s.tab 2).buf 27), .int .u8 ((s.tab 2).buf 28), .int .u8 ((s.tab 2).buf 29), .int .u8 ((s.tab 2).buf 30), .int .u8 ((s.tab 2).buf 31), .int .u8 ((s.tab 2).buf 32), .int .u8 ((s.tab 2).buf 33), .int .u8 ((s.tab 2).buf 34), .int .u8 ((s.tab 2).buf 35), .int .u8 ((s.tab 2).buf 36), .int .u8 ((s.tab 2).buf 37), .int .u8 ((s.tab 2).buf 38), .int .u8 ((s.tab 2).buf 39)]
theorem Ipt.g0 {v0 : Int} {v1 : Int} {v2 : Int} {v3 : (Nat → Slt)} : (Ipt.enc (Ipt.mk v0 v1 v2 v3))[0]? = some (.int .i64 v0) := rfl
theorem Ipt.s0 {v0 : Int} {v1 : Int} {v2 : Int} {v3 : (Nat → Slt)} {x : Int} : (Ipt.enc (Ipt.mk v0 v1 v2 v3)).setIfInBounds 0 (.int .i64 x) = Ipt.enc (Ipt.mk x v1 v2 v3) := rfl
theorem Ipt.g1 {v0 : Int} {v1 : Int} {v2 : Int} {v3 : (Nat → Slt)} : (Ipt.enc (Ipt.mk v0 v1 v2 v3))[1]? = some (.int .i64 v1) := rfl
theorem Ipt.s1 {v0 : Int} {v1 : Int} {v2 : Int} {v3 : (Nat → Slt)} {x : Int} : (Ipt.enc (Ipt.mk v0 v1 v2 v3)).setIfInBounds 1 (.int .i64 x) = Ipt.enc (Ipt.mk v0 x v2 v3) := rfl
theorem Ipt.g2 {v0 : Int} {v1 : Int} {v2 : Int} {v3 : (Nat → Slt)} : (Ipt.enc (Ipt.mk v0 v1 v2 v3))[2]? = some (.int .i64 v2) := rfl
theorem Ipt.s2 {v0 : Int} {v1 : Int} {v2 : Int} {v3 : (Nat → Slt)} {x : Int} : (Ipt.enc (Ipt.mk v0 v1 v2 v3)).setIfInBounds 2 (.int .i64 x) = Ipt.enc (Ipt.mk v0 v1 x v3) := rfl
theorem Ipt.size {s : Ipt} : s.enc.size = 138 := rfl
def Ipt.zero : Ipt := { addr := 0, nxt_ := 0, credit := 0, tab := (fun _ => Slt.zero) }
theorem Ipt.g_tab_used {s : Ipt} {o : Nat} (i : Nat) (hi : i < 3) (ho : o = 3 + i * 45) : s.enc[o]? = some (.bool (s.tab i).used) := by
  subst ho
  have qi : i = 0 ∨ i = 1 ∨ i = 2 := by omega
  rcases qi with rfl | rfl | rfl <;> rfl
theorem Ipt.s_tab_used {s : Ipt} {x : Bool} {o : Nat} (i : Nat) (hi : i < 3) (ho : o = 3 + i * 45) : s.enc.setIfInBounds o (.bool x) = ({ s with tab := (upA s.tab i { (s.tab i) with used := x }) } : Ipt).enc := by
  subst ho
  have qi : i = 0 ∨ i = 1 ∨ i = 2 := by omega
  rcases qi with rfl | rfl | rfl <;> rfl
theorem Ipt.g_tab_key {s : Ipt} {o : Nat} (i : Nat) (hi : i < 3) (ho : o = 4 + i * 45) : s.enc[o]? = some (.int .i64 (s.tab i).key) := by
  subst ho
  have qi : i = 0 ∨ i = 1 ∨ i = 2 := by omega
  rcases qi with rfl | rfl | rfl <;> rfl
theorem Ipt.s_tab_key {s : Ipt} {x : Int} {o : Nat} (i : Nat) (hi : i < 3) (ho : o = 4 + i * 45) : s.enc.setIfInBounds o (.int .i64 x) = ({ s with tab := (upA s.tab i { (s.tab i) with key := x }) } : Ipt).enc := by
  subst ho
  have qi : i = 0 ∨ i = 1 ∨ i = 2 := by omega
  rcases qi with rfl | rfl | rfl <;> rfl
theorem Ipt.g_tab_left {s : Ipt} {o : Nat} (i : Nat) (hi : i < 3) (ho : o = 5 + i * 45) : s.enc[o]? = some (.int .i64 (s.tab i).left) := by
  subst ho
  have qi : i = 0 ∨ i = 1 ∨ i = 2 := by omega
  rcases qi with rfl | rfl | rfl <;> rfl
theorem Ipt.s_tab_left {s : Ipt} {x : Int} {o : Nat} (i : Nat) (hi : i < 3) (ho : o = 5 + i * 45) : s.enc.setIfInBounds o (.int .i64 x) = ({ s with tab := (upA s.tab i { (s.tab i) with left := x }) } : Ipt).enc := by
  subst ho
  have qi : i = 0 ∨ i = 1 ∨ i = 2 := by omega
  rcases qi with rfl | rfl | rfl <;> rfl
theorem Ipt.g_tab_total {s : Ipt} {o : Nat} (i : Nat) (hi : i < 3) (ho : o = 6 + i * 45) : s.enc[o]? = some (.int .i64 (s.tab i).total) := by
  subst ho
  have qi : i = 0 ∨ i = 1 ∨ i = 2 := by omega
  rcases qi with rfl | rfl | rfl <;> rfl
theorem Ipt.s_tab_total {s : Ipt} {x : Int} {o : Nat} (i : Nat) (hi : i < 3) (ho : o = 6 + i * 45) : s.enc.setIfInBounds o (.int .i64 x) = ({ s with tab := (upA s.tab i { (s.tab i) with total := x }) } : Ipt).enc := by
  subst ho
  have qi : i = 0 ∨ i = 1 ∨ i = 2 := by omega
  rcases qi with rfl | rfl | rfl <;> rfl
theorem Ipt.g_tab_held {s : Ipt} {o : Nat} (i : Nat) (hi : i < 3) (ho : o = 7 + i * 45) : s.enc[o]? = some (.int .u64 (s.tab i).held) := by
  subst ho
  have qi : i = 0 ∨ i = 1 ∨ i = 2 := by omega
  rcases qi with rfl | rfl | rfl <;> rfl
theorem Ipt.s_tab_held {s : Ipt} {x : Int} {o : Nat} (i : Nat) (hi : i < 3) (ho : o = 7 + i * 45) : s.enc.setIfInBounds o (.int .u64 x) = ({ s with tab := (upA s.tab i { (s.tab i) with held := x }) } : Ipt).enc := by
  subst ho
  have qi : i = 0 ∨ i = 1 ∨ i = 2 := by omega
  rcases qi with rfl | rfl | rfl <;> rfl
theorem Ipt.g_tab_buf {s : Ipt} {o : Nat} (i : Nat) (hi : i < 3) (j : Nat) (hj : j < 40) (ho : o = 8 + i * 45 + j * 1) : s.enc[o]? = some (.int .u8 ((s.tab i).buf j)) := by
  subst ho
  have qi : i = 0 ∨ i = 1 ∨ i = 2 := by omega
  have qj : j = 0 ∨ j = 1 ∨ j = 2 ∨ j = 3 ∨ j = 4 ∨ j = 5 ∨ j = 6 ∨ j = 7 ∨ j = 8 ∨ j = 9 ∨ j = 10 ∨ j = 11 ∨ j = 12 ∨ j = 13 ∨ j = 14 ∨ j = 15 ∨ j = 16 ∨ j = 17 ∨ j = 18 ∨ j = 19 ∨ j = 20 ∨ j = 21 ∨ j = 22 ∨ j = 23 ∨ j = 24 ∨ j = 25 ∨ j = 26 ∨ j = 27 ∨ j = 28 ∨ j = 29 ∨ j = 30 ∨ j = 31 ∨ j = 32 ∨ j = 33 ∨ j = 34 ∨ j = 35 ∨ j = 36 ∨ j = 37 ∨ j = 38 ∨ j = 39 := by omega
  rcases qi with rfl | rfl | rfl <;> rcases qj with rfl | rfl | rfl | rfl | rfl | rfl | rfl | rfl | rfl | rfl | rfl | rfl | rfl | rfl | rfl | rfl | rfl | rfl | rfl | rfl | rfl | rfl | rfl | rfl | rfl | rfl | rfl | rfl | rfl | rfl | rfl | rfl | rfl | rfl | rfl | rfl | rfl | rfl | rfl | rfl <;> rfl
theorem Ipt.s_tab_buf {s : Ipt} {x : Int} {o : Nat} (i : Nat) (hi : i < 3) (j : Nat) (hj : j < 40) (ho : o = 8 + i * 45 + j * 1) : s.enc.setIfInBounds o (.int .u8 x) = ({ s with tab := (upA s.tab i { (s.tab i) with buf := (upA (s.tab i).buf j x) }) } : Ipt).enc := by
  subst ho
  have qi : i = 0 ∨ i = 1 ∨ i = 2 := by omega
  have qj : j = 0 ∨ j = 1 ∨ j = 2 ∨ j = 3 ∨ j = 4 ∨ j = 5 ∨ j = 6 ∨ j = 7 ∨ j = 8 ∨ j = 9 ∨ j = 10 ∨ j = 11 ∨ j = 12 ∨ j = 13 ∨ j = 14 ∨ j = 15 ∨ j = 16 ∨ j = 17 ∨ j = 18 ∨ j = 19 ∨ j = 20 ∨ j = 21 ∨ j = 22 ∨ j = 23 ∨ j = 24 ∨ j = 25 ∨ j = 26 ∨ j = 27 ∨ j = 28 ∨ j = 29 ∨ j = 30 ∨ j = 31 ∨ j = 32 ∨ j = 33 ∨ j = 34 ∨ j = 35 ∨ j = 36 ∨ j = 37 ∨ j = 38 ∨ j = 39 := by omega
  rcases qi with rfl | rfl | rfl <;> rcases qj with rfl | rfl | rfl | rfl | rfl | rfl | rfl | rfl | rfl | rfl | rfl | rfl | rfl | rfl | rfl | rfl | rfl | rfl | rfl | rfl | rfl | rfl | rfl | rfl | rfl | rfl | rfl | rfl | rfl | rfl | rfl | rfl | rfl | rfl | rfl | rfl | rfl | rfl | rfl | rfl <;> rfl
structure Rw where
  used : Bool
  e : En
  nxt_ : Int
  kids : Int
  ring : (Nat → Int)
  head : Int
  n : Int
def Rw.enc (s : Rw) : Array Value := #[.bool s.used, .int .i64 s.e.sd, .int .i64 s.e.kind, .int .i64 s.e.lPort, .int .i64 s.e.rHost, .int .i64 s.e.rPort, .int .i64 s.e.slot, .int .i64 s.e.parent, .bool s.e.ready, .int .i64 s.nxt_, .int .i64 s.kids, .int .i64 (s.ring 0), .int .i64 (s.ring 1), .int .i64 s.head, .int .i64 s.n]
theorem Rw.g0 {v0 : Bool} {v1 : Int} {v2 : Int} {v3 : Int} {v4 : Int} {v5 : Int} {v6 : Int} {v7 : Int} {v8 : Bool} {v9 : Int} {v10 : Int} {v11 : (Nat → Int)} {v12 : Int} {v13 : Int} : (Rw.enc (Rw.mk v0 (En.mk v1 v2 v3 v4 v5 v6 v7 v8) v9 v10 v11 v12 v13))[0]? = some (.bool v0) := rfl
theorem Rw.s0 {v0 : Bool} {v1 : Int} {v2 : Int} {v3 : Int} {v4 : Int} {v5 : Int} {v6 : Int} {v7 : Int} {v8 : Bool} {v9 : Int} {v10 : Int} {v11 : (Nat → Int)} {v12 : Int} {v13 : Int} {x : Bool} : (Rw.enc (Rw.mk v0 (En.mk v1 v2 v3 v4 v5 v6 v7 v8) v9 v10 v11 v12 v13)).setIfInBounds 0 (.bool x) = Rw.enc (Rw.mk x (En.mk v1 v2 v3 v4 v5 v6 v7 v8) v9 v10 v11 v12 v13) := rfl
theorem Rw.g1 {v0 : Bool} {v1 : Int} {v2 : Int} {v3 : Int} {v4 : Int} {v5 : Int} {v6 : Int} {v7 : Int} {v8 : Bool} {v9 : Int} {v10 : Int} {v11 : (Nat → Int)} {v12 : Int} {v13 : Int} : (Rw.enc (Rw.mk v0 (En.mk v1 v2 v3 v4 v5 v6 v7 v8) v9 v10 v11 v12 v13))[1]? = some (.int .i64 v1) := rfl
theorem Rw.s1 {v0 : Bool} {v1 : Int} {v2 : Int} {v3 : Int} {v4 : Int} {v5 : Int} {v6 : Int} {v7 : Int} {v8 : Bool} {v9 : Int} {v10 : Int} {v11 : (Nat → Int)} {v12 : Int} {v13 : Int} {x : Int} : (Rw.enc (Rw.mk v0 (En.mk v1 v2 v3 v4 v5 v6 v7 v8) v9 v10 v11 v12 v13)).setIfInBounds 1 (.int .i64 x) = Rw.enc (Rw.mk v0 (En.mk x v2 v3 v4 v5 v6 v7 v8) v9 v10 v11 v12 v13) := rfl
theorem Rw.g2 {v0 : Bool} {v1 : Int} {v2 : Int} {v3 : Int} {v4 : Int} {v5 : Int} {v6 : Int} {v7 : Int} {v8 : Bool} {v9 : Int} {v10 : Int} {v11 : (Nat → Int)} {v12 : Int} {v13 : Int} : (Rw.enc (Rw.mk v0 (En.mk v1 v2 v3 v4 v5 v6 v7 v8) v9 v10 v11 v12 v13))[2]? = some (.int .i64 v2) := rfl
theorem Rw.s2 {v0 : Bool} {v1 : Int} {v2 : Int} {v3 : Int} {v4 : Int} {v5 : Int} {v6 : Int} {v7 : Int} {v8 : Bool} {v9 : Int} {v10 : Int} {v11 : (Nat → Int)} {v12 : Int} {v13 : Int} {x : Int} : (Rw.enc (Rw.mk v0 (En.mk v1 v2 v3 v4 v5 v6 v7 v8) v9 v10 v11 v12 v13)).setIfInBounds 2 (.int .i64 x) = Rw.enc (Rw.mk v0 (En.mk v1 x v3 v4 v5 v6 v7 v8) v9 v10 v11 v12 v13) := rfl
theorem Rw.g3 {v0 : Bool} {v1 : Int} {v2 : Int} {v3 : Int} {v4 : Int} {v5 : Int} {v6 : Int} {v7 : Int} {v8 : Bool} {v9 : Int} {v10 : Int} {v11 : (Nat → Int)} {v12 : Int} {v13 : Int} : (Rw.enc (Rw.mk v0 (En.mk v1 v2 v3 v4 v5 v6 v7 v8) v9 v10 v11 v12 v13))[3]? = some (.int .i64 v3) := rfl
theorem Rw.s3 {v0 : Bool} {v1 : Int} {v2 : Int} {v3 : Int} {v4 : Int} {v5 : Int} {v6 : Int} {v7 : Int} {v8 : Bool} {v9 : Int} {v10 : Int} {v11 : (Nat → Int)} {v12 : Int} {v13 : Int} {x : Int} : (Rw.enc (Rw.mk v0 (En.mk v1 v2 v3 v4 v5 v6 v7 v8) v9 v10 v11 v12 v13)).setIfInBounds 3 (.int .i64 x) = Rw.enc (Rw.mk v0 (En.mk v1 v2 x v4 v5 v6 v7 v8) v9 v10 v11 v12 v13) := rfl
theorem Rw.g4 {v0 : Bool} {v1 : Int} {v2 : Int} {v3 : Int} {v4 : Int} {v5 : Int} {v6 : Int} {v7 : Int} {v8 : Bool} {v9 : Int} {v10 : Int} {v11 : (Nat → Int)} {v12 : Int} {v13 : Int} : (Rw.enc (Rw.mk v0 (En.mk v1 v2 v3 v4 v5 v6 v7 v8) v9 v10 v11 v12 v13))[4]? = some (.int .i64 v4) := rfl
theorem Rw.s4 {v0 : Bool} {v1 : Int} {v2 : Int} {v3 : Int} {v4 : Int} {v5 : Int} {v6 : Int} {v7 : Int} {v8 : Bool} {v9 : Int} {v10 : Int} {v11 : (Nat → Int)} {v12 : Int} {v13 : Int} {x : Int} : (Rw.enc (Rw.mk v0 (En.mk v1 v2 v3 v4 v5 v6 v7 v8) v9 v10 v11 v12 v13)).setIfInBounds 4 (.int .i64 x) = Rw.enc (Rw.mk v0 (En.mk v1 v2 v3 x v5 v6 v7 v8) v9 v10 v11 v12 v13) := rfl
theorem Rw.g5 {v0 : Bool} {v1 : Int} {v2 : Int} {v3 : Int} {v4 : Int} {v5 : Int} {v6 : Int} {v7 : Int} {v8 : Bool} {v9 : Int} {v10 : Int} {v11 : (Nat → Int)} {v12 : Int} {v13 : Int} : (Rw.enc (Rw.mk v0 (En.mk v1 v2 v3 v4 v5 v6 v7 v8) v9 v10 v11 v12 v13))[5]? = some (.int .i64 v5) := rfl
theorem Rw.s5 {v0 : Bool} {v1 : Int} {v2 : Int} {v3 : Int} {v4 : Int} {v5 : Int} {v6 : Int} {v7 : Int} {v8 : Bool} {v9 : Int} {v10 : Int} {v11 : (Nat → Int)} {v12 : Int} {v13 : Int} {x : Int} : (Rw.enc (Rw.mk v0 (En.mk v1 v2 v3 v4 v5 v6 v7 v8) v9 v10 v11 v12 v13)).setIfInBounds 5 (.int .i64 x) = Rw.enc (Rw.mk v0 (En.mk v1 v2 v3 v4 x v6 v7 v8) v9 v10 v11 v12 v13) := rfl
theorem Rw.g6 {v0 : Bool} {v1 : Int} {v2 : Int} {v3 : Int} {v4 : Int} {v5 : Int} {v6 : Int} {v7 : Int} {v8 : Bool} {v9 : Int} {v10 : Int} {v11 : (Nat → Int)} {v12 : Int} {v13 : Int} : (Rw.enc (Rw.mk v0 (En.mk v1 v2 v3 v4 v5 v6 v7 v8) v9 v10 v11 v12 v13))[6]? = some (.int .i64 v6) := rfl
theorem Rw.s6 {v0 : Bool} {v1 : Int} {v2 : Int} {v3 : Int} {v4 : Int} {v5 : Int} {v6 : Int} {v7 : Int} {v8 : Bool} {v9 : Int} {v10 : Int} {v11 : (Nat → Int)} {v12 : Int} {v13 : Int} {x : Int} : (Rw.enc (Rw.mk v0 (En.mk v1 v2 v3 v4 v5 v6 v7 v8) v9 v10 v11 v12 v13)).setIfInBounds 6 (.int .i64 x) = Rw.enc (Rw.mk v0 (En.mk v1 v2 v3 v4 v5 x v7 v8) v9 v10 v11 v12 v13) := rfl
theorem Rw.g7 {v0 : Bool} {v1 : Int} {v2 : Int} {v3 : Int} {v4 : Int} {v5 : Int} {v6 : Int} {v7 : Int} {v8 : Bool} {v9 : Int} {v10 : Int} {v11 : (Nat → Int)} {v12 : Int} {v13 : Int} : (Rw.enc (Rw.mk v0 (En.mk v1 v2 v3 v4 v5 v6 v7 v8) v9 v10 v11 v12 v13))[7]? = some (.int .i64 v7) := rfl
theorem Rw.s7 {v0 : Bool} {v1 : Int} {v2 : Int} {v3 : Int} {v4 : Int} {v5 : Int} {v6 : Int} {v7 : Int} {v8 : Bool} {v9 : Int} {v10 : Int} {v11 : (Nat → Int)} {v12 : Int} {v13 : Int} {x : Int} : (Rw.enc (Rw.mk v0 (En.mk v1 v2 v3 v4 v5 v6 v7 v8) v9 v10 v11 v12 v13)).setIfInBounds 7 (.int .i64 x) = Rw.enc (Rw.mk v0 (En.mk v1 v2 v3 v4 v5 v6 x v8) v9 v10 v11 v12 v13) := rfl
theorem Rw.g8 {v0 : Bool} {v1 : Int} {v2 : Int} {v3 : Int} {v4 : Int} {v5 : Int} {v6 : Int} {v7 : Int} {v8 : Bool} {v9 : Int} {v10 : Int} {v11 : (Nat → Int)} {v12 : Int} {v13 : Int} : (Rw.enc (Rw.mk v0 (En.mk v1 v2 v3 v4 v5 v6 v7 v8) v9 v10 v11 v12 v13))[8]? = some (.bool v8) := rfl
theorem Rw.s8 {v0 : Bool} {v1 : Int} {v2 : Int} {v3 : Int} {v4 : Int} {v5 : Int} {v6 : Int} {v7 : Int} {v8 : Bool} {v9 : Int} {v10 : Int} {v11 : (Nat → Int)} {v12 : Int} {v13 : Int} {x : Bool} : (Rw.enc (Rw.mk v0 (En.mk v1 v2 v3 v4 v5 v6 v7 v8) v9 v10 v11 v12 v13)).setIfInBounds 8 (.bool x) = Rw.enc (Rw.mk v0 (En.mk v1 v2 v3 v4 v5 v6 v7 x) v9 v10 v11 v12 v13) := rfl
theorem Rw.g9 {v0 : Bool} {v1 : Int} {v2 : Int} {v3 : Int} {v4 : Int} {v5 : Int} {v6 : Int} {v7 : Int} {v8 : Bool} {v9 : Int} {v10 : Int} {v11 : (Nat → Int)} {v12 : Int} {v13 : Int} : (Rw.enc (Rw.mk v0 (En.mk v1 v2 v3 v4 v5 v6 v7 v8) v9 v10 v11 v12 v13))[9]? = some (.int .i64 v9) := rfl
theorem Rw.s9 {v0 : Bool} {v1 : Int} {v2 : Int} {v3 : Int} {v4 : Int} {v5 : Int} {v6 : Int} {v7 : Int} {v8 : Bool} {v9 : Int} {v10 : Int} {v11 : (Nat → Int)} {v12 : Int} {v13 : Int} {x : Int} : (Rw.enc (Rw.mk v0 (En.mk v1 v2 v3 v4 v5 v6 v7 v8) v9 v10 v11 v12 v13)).setIfInBounds 9 (.int .i64 x) = Rw.enc (Rw.mk v0 (En.mk v1 v2 v3 v4 v5 v6 v7 v8) x v10 v11 v12 v13) := rfl
theorem Rw.g10 {v0 : Bool} {v1 : Int} {v2 : Int} {v3 : Int} {v4 : Int} {v5 : Int} {v6 : Int} {v7 : Int} {v8 : Bool} {v9 : Int} {v10 : Int} {v11 : (Nat → Int)} {v12 : Int} {v13 : Int} : (Rw.enc (Rw.mk v0 (En.mk v1 v2 v3 v4 v5 v6 v7 v8) v9 v10 v11 v12 v13))[10]? = some (.int .i64 v10) := rfl
theorem Rw.s10 {v0 : Bool} {v1 : Int} {v2 : Int} {v3 : Int} {v4 : Int} {v5 : Int} {v6 : Int} {v7 : Int} {v8 : Bool} {v9 : Int} {v10 : Int} {v11 : (Nat → Int)} {v12 : Int} {v13 : Int} {x : Int} : (Rw.enc (Rw.mk v0 (En.mk v1 v2 v3 v4 v5 v6 v7 v8) v9 v10 v11 v12 v13)).setIfInBounds 10 (.int .i64 x) = Rw.enc (Rw.mk v0 (En.mk v1 v2 v3 v4 v5 v6 v7 v8) v9 x v11 v12 v13) := rfl
theorem Rw.g13 {v0 : Bool} {v1 : Int} {v2 : Int} {v3 : Int} {v4 : Int} {v5 : Int} {v6 : Int} {v7 : Int} {v8 : Bool} {v9 : Int} {v10 : Int} {v11 : (Nat → Int)} {v12 : Int} {v13 : Int} : (Rw.enc (Rw.mk v0 (En.mk v1 v2 v3 v4 v5 v6 v7 v8) v9 v10 v11 v12 v13))[13]? = some (.int .i64 v12) := rfl
theorem Rw.s13 {v0 : Bool} {v1 : Int} {v2 : Int} {v3 : Int} {v4 : Int} {v5 : Int} {v6 : Int} {v7 : Int} {v8 : Bool} {v9 : Int} {v10 : Int} {v11 : (Nat → Int)} {v12 : Int} {v13 : Int} {x : Int} : (Rw.enc (Rw.mk v0 (En.mk v1 v2 v3 v4 v5 v6 v7 v8) v9 v10 v11 v12 v13)).setIfInBounds 13 (.int .i64 x) = Rw.enc (Rw.mk v0 (En.mk v1 v2 v3 v4 v5 v6 v7 v8) v9 v10 v11 x v13) := rfl
theorem Rw.g14 {v0 : Bool} {v1 : Int} {v2 : Int} {v3 : Int} {v4 : Int} {v5 : Int} {v6 : Int} {v7 : Int} {v8 : Bool} {v9 : Int} {v10 : Int} {v11 : (Nat → Int)} {v12 : Int} {v13 : Int} : (Rw.enc (Rw.mk v0 (En.mk v1 v2 v3 v4 v5 v6 v7 v8) v9 v10 v11 v12 v13))[14]? = some (.int .i64 v13) := rfl
theorem Rw.s14 {v0 : Bool} {v1 : Int} {v2 : Int} {v3 : Int} {v4 : Int} {v5 : Int} {v6 : Int} {v7 : Int} {v8 : Bool} {v9 : Int} {v10 : Int} {v11 : (Nat → Int)} {v12 : Int} {v13 : Int} {x : Int} : (Rw.enc (Rw.mk v0 (En.mk v1 v2 v3 v4 v5 v6 v7 v8) v9 v10 v11 v12 v13)).setIfInBounds 14 (.int .i64 x) = Rw.enc (Rw.mk v0 (En.mk v1 v2 v3 v4 v5 v6 v7 v8) v9 v10 v11 v12 x) := rfl
theorem Rw.size {s : Rw} : s.enc.size = 15 := rfl
def Rw.zero : Rw := { used := false, e := En.zero, nxt_ := 0, kids := 0, ring := (fun _ => 0), head := 0, n := 0 }
theorem Rw.g_ring {s : Rw} {o : Nat} (i : Nat) (hi : i < 2) (ho : o = 11 + i * 1) : s.enc[o]? = some (.int .i64 (s.ring i)) := by
  subst ho
  have qi : i = 0 ∨ i = 1 := by omega
  rcases qi with rfl | rfl <;> rfl
theorem Rw.s_ring {s : Rw} {x : Int} {o : Nat} (i : Nat) (hi : i < 2) (ho : o = 11 + i * 1) : s.enc.setIfInBounds o (.int .i64 x) = ({ s with ring := (upA s.ring i x) } : Rw).enc := by
  subst ho
  have qi : i = 0 ∨ i = 1 := by omega
  rcases qi with rfl | rfl <;> rfl
structure Tb where
  rows : (Nat → Rw)
  free : Int
  bucket : (Nat → Int)
  port : (Nat → Int)
  blocks : Int
  listeners : Int
  nextSd : Int
  eph : Int
def Tb.enc (s : Tb) : Array Value := #[.bool (s.rows 0).used, .int .i64 (s.rows 0).e.sd, .int .i64 (s.rows 0).e.kind, .int .i64 (s.rows 0).e.lPort, .int .i64 (s.rows 0).e.rHost, .int .i64 (s.rows 0).e.rPort, .int .i64 (s.rows 0).e.slot, .int .i64 (s.rows 0).e.parent, .bool (s.rows 0).e.ready, .int .i64 (s.rows 0).nxt_, .int .i64 (s.rows 0).kids, .int .i64 ((s.rows 0).ring 0), .int .i64 ((s.rows 0).ring 1), .int .i64 (s.rows 0).head, .int .i64 (s.rows 0).n, .bool (s.rows 1).used, .int .i64 (s.rows 1).e.sd, .int .i64 (s.rows 1).e.kind, .int .i64 (s.rows 1).e.lPort, .int .i64 (s.rows 1).e.rHost, .int .i64 (s.rows 1).e.rPort, .int .i64 (s.rows 1).e.slot, .int .i64 (s.rows 1).e.parent, .bool (s.rows 1).e.ready, .int .i64 (s.rows 1).nxt_, .int .i64 (s.rows 1).kids, .int .i64 ((s.rows 1).ring 0), .int .i64 ((s.rows 1).ring 1), .int .i64 (s.rows 1).head, .int .i64 (s.rows 1).n, .bool (s.rows 2).used, .int .i64 (s.rows 2).e.sd, .int .i64 (s.rows 2).e.kind, .int .i64 (s.rows 2).e.lPort, .int .i64 (s.rows 2).e.rHost, .int .i64 (s.rows 2).e.rPort, .int .i64 (s.rows 2).e.slot, .int .i64 (s.rows 2).e.parent, .bool (s.rows 2).e.ready, .int .i64 (s.rows 2).nxt_, .int .i64 (s.rows 2).kids, .int .i64 ((s.rows 2).ring 0), .int .i64 ((s.rows 2).ring 1), .int .i64 (s.rows 2).head, .int .i64 (s.rows 2).n, .bool (s.rows 3).used, .int .i64 (s.rows 3).e.sd, .int .i64 (s.rows 3).e.kind, .int .i64 (s.rows 3).e.lPort, .int .i64 (s.rows 3).e.rHost, .int .i64 (s.rows 3).e.rPort, .int .i64 (s.rows 3).e.slot, .int .i64 (s.rows 3).e.parent, .bool (s.rows 3).e.ready, .int .i64 (s.rows 3).nxt_, .int .i64 (s.rows 3).kids, .int .i64 ((s.rows 3).ring 0), .int .i64 ((s.rows 3).ring 1), .int .i64 (s.rows 3).head, .int .i64 (s.rows 3).n, .bool (s.rows 4).used, .int .i64 (s.rows 4).e.sd, .int .i64 (s.rows 4).e.kind, .int .i64 (s.rows 4).e.lPort, .int .i64 (s.rows 4).e.rHost, .int .i64 (s.rows 4).e.rPort, .int .i64 (s.rows 4).e.slot, .int .i64 (s.rows 4).e.parent, .bool (s.rows 4).e.ready, .int .i64 (s.rows 4).nxt_, .int .i64 (s.rows 4).kids, .int .i64 ((s.rows 4).ring 0), .int .i64 ((s.rows 4).ring 1), .int .i64 (s.rows 4).head, .int .i64 (s.rows 4).n, .bool (s.rows 5).used, .int .i64 (s.rows 5).e.sd, .int .i64 (s.rows 5).e.kind, .int .i64 (s.rows 5).e.lPort, .int .i64 (s.rows 5).e.rHost, .int .i64 (s.rows 5).e.rPort, .int .i64 (s.rows 5).e.slot, .int .i64 (s.rows 5).e.parent, .bool (s.rows 5).e.ready, .int .i64 (s.rows 5).nxt_, .int .i64 (s.rows 5).kids, .int .i64 ((s.rows 5).ring 0), .int .i64 ((s.rows 5).ring 1), .int .i64 (s.rows 5).head, .int .i64 (s.rows 5).n, .int .i64 s.free, .int .i64 (s.bucket 0), .int .i64 (s.bucket 1), .int .i64 (s.bucket 2), .int .i64 (s.bucket 3), .int .i64 (s.port 0), .int .i64 (s.port 1), .int .i64 (s.port 2), .int .i64 (s.port 3), .int .i64 (s.port 4), .int .i64 (s.port 5), .int .i64 (s.port 6), .int .i64 (s.port 7), .int .u8 s.blocks, .int .i64 s.listeners, .int .i64 s.nextSd, .int .i64 s.eph]
theorem Tb.g90 {v0 : (Nat → Rw)} {v1 : Int} {v2 : (Nat → Int)} {v3 : (Nat → Int)} {v4 : Int} {v5 : Int} {v6 : Int} {v7 : Int} : (Tb.enc (Tb.mk v0 v1 v2 v3 v4 v5 v6 v7))[90]? = some (.int .i64 v1) := rfl
theorem Tb.s90 {v0 : (Nat → Rw)} {v1 : Int} {v2 : (Nat → Int)} {v3 : (Nat → Int)} {v4 : Int} {v5 : Int} {v6 : Int} {v7 : Int} {x : Int} : (Tb.enc (Tb.mk v0 v1 v2 v3 v4 v5 v6 v7)).setIfInBounds 90 (.int .i64 x) = Tb.enc (Tb.mk v0 x v2 v3 v4 v5 v6 v7) := rfl
theorem Tb.g103 {v0 : (Nat → Rw)} {v1 : Int} {v2 : (Nat → Int)} {v3 : (Nat → Int)} {v4 : Int} {v5 : Int} {v6 : Int} {v7 : Int} : (Tb.enc (Tb.mk v0 v1 v2 v3 v4 v5 v6 v7))[103]? = some (.int .u8 v4) := rfl
theorem Tb.s103 {v0 : (Nat → Rw)} {v1 : Int} {v2 : (Nat → Int)} {v3 : (Nat → Int)} {v4 : Int} {v5 : Int} {v6 : Int} {v7 : Int} {x : Int} : (Tb.enc (Tb.mk v0 v1 v2 v3 v4 v5 v6 v7)).setIfInBounds 103 (.int .u8 x) = Tb.enc (Tb.mk v0 v1 v2 v3 x v5 v6 v7) := rfl
theorem Tb.g104 {v0 : (Nat → Rw)} {v1 : Int} {v2 : (Nat → Int)} {v3 : (Nat → Int)} {v4 : Int} {v5 : Int} {v6 : Int} {v7 : Int} : (Tb.enc (Tb.mk v0 v1 v2 v3 v4 v5 v6 v7))[104]? = some (.int .i64 v5) := rfl
theorem Tb.s104 {v0 : (Nat → Rw)} {v1 : Int} {v2 : (Nat → Int)} {v3 : (Nat → Int)} {v4 : Int} {v5 : Int} {v6 : Int} {v7 : Int} {x : Int} : (Tb.enc (Tb.mk v0 v1 v2 v3 v4 v5 v6 v7)).setIfInBounds 104 (.int .i64 x) = Tb.enc (Tb.mk v0 v1 v2 v3 v4 x v6 v7) := rfl
theorem Tb.g105 {v0 : (Nat → Rw)} {v1 : Int} {v2 : (Nat → Int)} {v3 : (Nat → Int)} {v4 : Int} {v5 : Int} {v6 : Int} {v7 : Int} : (Tb.enc (Tb.mk v0 v1 v2 v3 v4 v5 v6 v7))[105]? = some (.int .i64 v6) := rfl
theorem Tb.s105 {v0 : (Nat → Rw)} {v1 : Int} {v2 : (Nat → Int)} {v3 : (Nat → Int)} {v4 : Int} {v5 : Int} {v6 : Int} {v7 : Int} {x : Int} : (Tb.enc (Tb.mk v0 v1 v2 v3 v4 v5 v6 v7)).setIfInBounds 105 (.int .i64 x) = Tb.enc (Tb.mk v0 v1 v2 v3 v4 v5 x v7) := rfl
theorem Tb.g106 {v0 : (Nat → Rw)} {v1 : Int} {v2 : (Nat → Int)} {v3 : (Nat → Int)} {v4 : Int} {v5 : Int} {v6 : Int} {v7 : Int} : (Tb.enc (Tb.mk v0 v1 v2 v3 v4 v5 v6 v7))[106]? = some (.int .i64 v7) := rfl
theorem Tb.s106 {v0 : (Nat → Rw)} {v1 : Int} {v2 : (Nat → Int)} {v3 : (Nat → Int)} {v4 : Int} {v5 : Int} {v6 : Int} {v7 : Int} {x : Int} : (Tb.enc (Tb.mk v0 v1 v2 v3 v4 v5 v6 v7)).setIfInBounds 106 (.int .i64 x) = Tb.enc (Tb.mk v0 v1 v2 v3 v4 v5 v6 x) := rfl
theorem Tb.size {s : Tb} : s.enc.size = 107 := rfl
def Tb.zero : Tb := { rows := (fun _ => Rw.zero), free := 0, bucket := (fun _ => 0), port := (fun _ => 0), blocks := 0, listeners := 0, nextSd := 0, eph := 0 }
theorem Tb.g_rows_used {s : Tb} {o : Nat} (i : Nat) (hi : i < 6) (ho : o = 0 + i * 15) : s.enc[o]? = some (.bool (s.rows i).used) := by
  subst ho
  have qi : i = 0 ∨ i = 1 ∨ i = 2 ∨ i = 3 ∨ i = 4 ∨ i = 5 := by omega
  rcases qi with rfl | rfl | rfl | rfl | rfl | rfl <;> rfl
theorem Tb.s_rows_used {s : Tb} {x : Bool} {o : Nat} (i : Nat) (hi : i < 6) (ho : o = 0 + i * 15) : s.enc.setIfInBounds o (.bool x) = ({ s with rows := (upA s.rows i { (s.rows i) with used := x }) } : Tb).enc := by
  subst ho
  have qi : i = 0 ∨ i = 1 ∨ i = 2 ∨ i = 3 ∨ i = 4 ∨ i = 5 := by omega
  rcases qi with rfl | rfl | rfl | rfl | rfl | rfl <;> rfl
theorem Tb.g_rows_e_sd {s : Tb} {o : Nat} (i : Nat) (hi : i < 6) (ho : o = 1 + i * 15) : s.enc[o]? = some (.int .i64 (s.rows i).e.sd) := by
  subst ho
  have qi : i = 0 ∨ i = 1 ∨ i = 2 ∨ i = 3 ∨ i = 4 ∨ i = 5 := by omega
  rcases qi with rfl | rfl | rfl | rfl | rfl | rfl <;> rfl
theorem Tb.s_rows_e_sd {s : Tb} {x : Int} {o : Nat} (i : Nat) (hi : i < 6) (ho : o = 1 + i * 15) : s.enc.setIfInBounds o (.int .i64 x) = ({ s with rows := (upA s.rows i { (s.rows i) with e := { (s.rows i).e with sd := x } }) } : Tb).enc := by
  subst ho
  have qi : i = 0 ∨ i = 1 ∨ i = 2 ∨ i = 3 ∨ i = 4 ∨ i = 5 := by omega
  rcases qi with rfl | rfl | rfl | rfl | rfl | rfl <;> rfl
theorem Tb.g_rows_e_kind {s : Tb} {o : Nat} (i : Nat) (hi : i < 6) (ho : o = 2 + i * 15) : s.enc[o]? = some (.int .i64 (s.rows i).e.kind) := by
  subst ho
  have qi : i = 0 ∨ i = 1 ∨ i = 2 ∨ i = 3 ∨ i = 4 ∨ i = 5 := by omega
  rcases qi with rfl | rfl | rfl | rfl | rfl | rfl <;> rfl
theorem Tb.s_rows_e_kind {s : Tb} {x : Int} {o : Nat} (i : Nat) (hi : i < 6) (ho : o = 2 + i * 15) : s.enc.setIfInBounds o (.int .i64 x) = ({ s with rows := (upA s.rows i { (s.rows i) with e := { (s.rows i).e with kind := x } }) } : Tb).enc := by
  subst ho
  have qi : i = 0 ∨ i = 1 ∨ i = 2 ∨ i = 3 ∨ i = 4 ∨ i = 5 := by omega
  rcases qi with rfl | rfl | rfl | rfl | rfl | rfl <;> rfl
theorem Tb.g_rows_e_lPort {s : Tb} {o : Nat} (i : Nat) (hi : i < 6) (ho : o = 3 + i * 15) : s.enc[o]? = some (.int .i64 (s.rows i).e.lPort) := by
  subst ho
  have qi : i = 0 ∨ i = 1 ∨ i = 2 ∨ i = 3 ∨ i = 4 ∨ i = 5 := by omega
  rcases qi with rfl | rfl | rfl | rfl | rfl | rfl <;> rfl
theorem Tb.s_rows_e_lPort {s : Tb} {x : Int} {o : Nat} (i : Nat) (hi : i < 6) (ho : o = 3 + i * 15) : s.enc.setIfInBounds o (.int .i64 x) = ({ s with rows := (upA s.rows i { (s.rows i) with e := { (s.rows i).e with lPort := x } }) } : Tb).enc := by
  subst ho
  have qi : i = 0 ∨ i = 1 ∨ i = 2 ∨ i = 3 ∨ i = 4 ∨ i = 5 := by omega
  rcases qi with rfl | rfl | rfl | rfl | rfl | rfl <;> rfl
theorem Tb.g_rows_e_rHost {s : Tb} {o : Nat} (i : Nat) (hi : i < 6) (ho : o = 4 + i * 15) : s.enc[o]? = some (.int .i64 (s.rows i).e.rHost) := by
  subst ho
  have qi : i = 0 ∨ i = 1 ∨ i = 2 ∨ i = 3 ∨ i = 4 ∨ i = 5 := by omega
  rcases qi with rfl | rfl | rfl | rfl | rfl | rfl <;> rfl
theorem Tb.s_rows_e_rHost {s : Tb} {x : Int} {o : Nat} (i : Nat) (hi : i < 6) (ho : o = 4 + i * 15) : s.enc.setIfInBounds o (.int .i64 x) = ({ s with rows := (upA s.rows i { (s.rows i) with e := { (s.rows i).e with rHost := x } }) } : Tb).enc := by
  subst ho
  have qi : i = 0 ∨ i = 1 ∨ i = 2 ∨ i = 3 ∨ i = 4 ∨ i = 5 := by omega
  rcases qi with rfl | rfl | rfl | rfl | rfl | rfl <;> rfl
theorem Tb.g_rows_e_rPort {s : Tb} {o : Nat} (i : Nat) (hi : i < 6) (ho : o = 5 + i * 15) : s.enc[o]? = some (.int .i64 (s.rows i).e.rPort) := by
  subst ho
  have qi : i = 0 ∨ i = 1 ∨ i = 2 ∨ i = 3 ∨ i = 4 ∨ i = 5 := by omega
  rcases qi with rfl | rfl | rfl | rfl | rfl | rfl <;> rfl
theorem Tb.s_rows_e_rPort {s : Tb} {x : Int} {o : Nat} (i : Nat) (hi : i < 6) (ho : o = 5 + i * 15) : s.enc.setIfInBounds o (.int .i64 x) = ({ s with rows := (upA s.rows i { (s.rows i) with e := { (s.rows i).e with rPort := x } }) } : Tb).enc := by
  subst ho
  have qi : i = 0 ∨ i = 1 ∨ i = 2 ∨ i = 3 ∨ i = 4 ∨ i = 5 := by omega
  rcases qi with rfl | rfl | rfl | rfl | rfl | rfl <;> rfl
theorem Tb.g_rows_e_slot {s : Tb} {o : Nat} (i : Nat) (hi : i < 6) (ho : o = 6 + i * 15) : s.enc[o]? = some (.int .i64 (s.rows i).e.slot) := by
  subst ho
  have qi : i = 0 ∨ i = 1 ∨ i = 2 ∨ i = 3 ∨ i = 4 ∨ i = 5 := by omega
  rcases qi with rfl | rfl | rfl | rfl | rfl | rfl <;> rfl
theorem Tb.s_rows_e_slot {s : Tb} {x : Int} {o : Nat} (i : Nat) (hi : i < 6) (ho : o = 6 + i * 15) : s.enc.setIfInBounds o (.int .i64 x) = ({ s with rows := (upA s.rows i { (s.rows i) with e := { (s.rows i).e with slot := x } }) } : Tb).enc := by
  subst ho
  have qi : i = 0 ∨ i = 1 ∨ i = 2 ∨ i = 3 ∨ i = 4 ∨ i = 5 := by omega
  rcases qi with rfl | rfl | rfl | rfl | rfl | rfl <;> rfl
theorem Tb.g_rows_e_parent {s : Tb} {o : Nat} (i : Nat) (hi : i < 6) (ho : o = 7 + i * 15) : s.enc[o]? = some (.int .i64 (s.rows i).e.parent) := by
  subst ho
  have qi : i = 0 ∨ i = 1 ∨ i = 2 ∨ i = 3 ∨ i = 4 ∨ i = 5 := by omega
  rcases qi with rfl | rfl | rfl | rfl | rfl | rfl <;> rfl
theorem Tb.s_rows_e_parent {s : Tb} {x : Int} {o : Nat} (i : Nat) (hi : i < 6) (ho : o = 7 + i * 15) : s.enc.setIfInBounds o (.int .i64 x) = ({ s with rows := (upA s.rows i { (s.rows i) with e := { (s.rows i).e with parent := x } }) } : Tb).enc := by
  subst ho
  have qi : i = 0 ∨ i = 1 ∨ i = 2 ∨ i = 3 ∨ i = 4 ∨ i = 5 := by omega
  rcases qi with rfl | rfl | rfl | rfl | rfl | rfl <;> rfl
theorem Tb.g_rows_e_ready {s : Tb} {o : Nat} (i : Nat) (hi : i < 6) (ho : o = 8 + i * 15) : s.enc[o]? = some (.bool (s.rows i).e.ready) := by
  subst ho
  have qi : i = 0 ∨ i = 1 ∨ i = 2 ∨ i = 3 ∨ i = 4 ∨ i = 5 := by omega
  rcases qi with rfl | rfl | rfl | rfl | rfl | rfl <;> rfl
theorem Tb.s_rows_e_ready {s : Tb} {x : Bool} {o : Nat} (i : Nat) (hi : i < 6) (ho : o = 8 + i * 15) : s.enc.setIfInBounds o (.bool x) = ({ s with rows := (upA s.rows i { (s.rows i) with e := { (s.rows i).e with ready := x } }) } : Tb).enc := by
  subst ho
  have qi : i = 0 ∨ i = 1 ∨ i = 2 ∨ i = 3 ∨ i = 4 ∨ i = 5 := by omega
  rcases qi with rfl | rfl | rfl | rfl | rfl | rfl <;> rfl
theorem Tb.g_rows_nxt_ {s : Tb} {o : Nat} (i : Nat) (hi : i < 6) (ho : o = 9 + i * 15) : s.enc[o]? = some (.int .i64 (s.rows i).nxt_) := by
  subst ho
  have qi : i = 0 ∨ i = 1 ∨ i = 2 ∨ i = 3 ∨ i = 4 ∨ i = 5 := by omega
  rcases qi with rfl | rfl | rfl | rfl | rfl | rfl <;> rfl
theorem Tb.s_rows_nxt_ {s : Tb} {x : Int} {o : Nat} (i : Nat) (hi : i < 6) (ho : o = 9 + i * 15) : s.enc.setIfInBounds o (.int .i64 x) = ({ s with rows := (upA s.rows i { (s.rows i) with nxt_ := x }) } : Tb).enc := by
  subst ho
  have qi : i = 0 ∨ i = 1 ∨ i = 2 ∨ i = 3 ∨ i = 4 ∨ i = 5 := by omega
  rcases qi with rfl | rfl | rfl | rfl | rfl | rfl <;> rfl
theorem Tb.g_rows_kids {s : Tb} {o : Nat} (i : Nat) (hi : i < 6) (ho : o = 10 + i * 15) : s.enc[o]? = some (.int .i64 (s.rows i).kids) := by
  subst ho
  have qi : i = 0 ∨ i = 1 ∨ i = 2 ∨ i = 3 ∨ i = 4 ∨ i = 5 := by omega
  rcases qi with rfl | rfl | rfl | rfl | rfl | rfl <;> rfl
theorem Tb.s_rows_kids {s : Tb} {x : Int} {o : Nat} (i : Nat) (hi : i < 6) (ho : o = 10 + i * 15) : s.enc.setIfInBounds o (.int .i64 x) = ({ s with rows := (upA s.rows i { (s.rows i) with kids := x }) } : Tb).enc := by
  subst ho
  have qi : i = 0 ∨ i = 1 ∨ i = 2 ∨ i = 3 ∨ i = 4 ∨ i = 5 := by omega
  rcases qi with rfl | rfl | rfl | rfl | rfl | rfl <;> rfl
theorem Tb.g_rows_ring {s : Tb} {o : Nat} (i : Nat) (hi : i < 6) (j : Nat) (hj : j < 2) (ho : o = 11 + i * 15 + j * 1) : s.enc[o]? = some (.int .i64 ((s.rows i).ring j)) := by
  subst ho
  have qi : i = 0 ∨ i = 1 ∨ i = 2 ∨ i = 3 ∨ i = 4 ∨ i = 5 := by omega
  have qj : j = 0 ∨ j = 1 := by omega
  rcases qi with rfl | rfl | rfl | rfl | rfl | rfl <;> rcases qj with rfl | rfl <;> rfl
theorem Tb.s_rows_ring {s : Tb} {x : Int} {o : Nat} (i : Nat) (hi : i < 6) (j : Nat) (hj : j < 2) (ho : o = 11 + i * 15 + j * 1) : s.enc.setIfInBounds o (.int .i64 x) = ({ s with rows := (upA s.rows i { (s.rows i) with ring := (upA (s.rows i).ring j x) }) } : Tb).enc := by
  subst ho
  have qi : i = 0 ∨ i = 1 ∨ i = 2 ∨ i = 3 ∨ i = 4 ∨ i = 5 := by omega
  have qj : j = 0 ∨ j = 1 := by omega
  rcases qi with rfl | rfl | rfl | rfl | rfl | rfl <;> rcases qj with rfl | rfl <;> rfl
theorem Tb.g_rows_head {s : Tb} {o : Nat} (i : Nat) (hi : i < 6) (ho : o = 13 + i * 15) : s.enc[o]? = some (.int .i64 (s.rows i).head) := by
  subst ho
  have qi : i = 0 ∨ i = 1 ∨ i = 2 ∨ i = 3 ∨ i = 4 ∨ i = 5 := by omega
  rcases qi with rfl | rfl | rfl | rfl | rfl | rfl <;> rfl
theorem Tb.s_rows_head {s : Tb} {x : Int} {o : Nat} (i : Nat) (hi : i < 6) (ho : o = 13 + i * 15) : s.enc.setIfInBounds o (.int .i64 x) = ({ s with rows := (upA s.rows i { (s.rows i) with head := x }) } : Tb).enc := by
  subst ho
  have qi : i = 0 ∨ i = 1 ∨ i = 2 ∨ i = 3 ∨ i = 4 ∨ i = 5 := by omega
  rcases qi with rfl | rfl | rfl | rfl | rfl | rfl <;> rfl
theorem Tb.g_rows_n {s : Tb} {o : Nat} (i : Nat) (hi : i < 6) (ho : o = 14 + i * 15) : s.enc[o]? = some (.int .i64 (s.rows i).n) := by
  subst ho
  have qi : i = 0 ∨ i = 1 ∨ i = 2 ∨ i = 3 ∨ i = 4 ∨ i = 5 := by omega
  rcases qi with rfl | rfl | rfl | rfl | rfl | rfl <;> rfl
theorem Tb.s_rows_n {s : Tb} {x : Int} {o : Nat} (i : Nat) (hi : i < 6) (ho : o = 14 + i * 15) : s.enc.setIfInBounds o (.int .i64 x) = ({ s with rows := (upA s.rows i { (s.rows i) with n := x }) } : Tb).enc := by
  subst ho
  have qi : i = 0 ∨ i = 1 ∨ i = 2 ∨ i = 3 ∨ i = 4 ∨ i = 5 := by omega
  rcases qi with rfl | rfl | rfl | rfl | rfl | rfl <;> rfl
theorem Tb.g_bucket {s : Tb} {o : Nat} (i : Nat) (hi : i < 4) (ho : o = 91 + i * 1) : s.enc[o]? = some (.int .i64 (s.bucket i)) := by
  subst ho
  have qi : i = 0 ∨ i = 1 ∨ i = 2 ∨ i = 3 := by omega
  rcases qi with rfl | rfl | rfl | rfl <;> rfl
theorem Tb.s_bucket {s : Tb} {x : Int} {o : Nat} (i : Nat) (hi : i < 4) (ho : o = 91 + i * 1) : s.enc.setIfInBounds o (.int .i64 x) = ({ s with bucket := (upA s.bucket i x) } : Tb).enc := by
  subst ho
  have qi : i = 0 ∨ i = 1 ∨ i = 2 ∨ i = 3 := by omega
  rcases qi with rfl | rfl | rfl | rfl <;> rfl
theorem Tb.g_port {s : Tb} {o : Nat} (i : Nat) (hi : i < 8) (ho : o = 95 + i * 1) : s.enc[o]? = some (.int .i64 (s.port i)) := by
  subst ho
  have qi : i = 0 ∨ i = 1 ∨ i = 2 ∨ i = 3 ∨ i = 4 ∨ i = 5 ∨ i = 6 ∨ i = 7 := by omega
  rcases qi with rfl | rfl | rfl | rfl | rfl | rfl | rfl | rfl <;> rfl
theorem Tb.s_port {s : Tb} {x : Int} {o : Nat} (i : Nat) (hi : i < 8) (ho : o = 95 + i * 1) : s.enc.setIfInBounds o (.int .i64 x) = ({ s with port := (upA s.port i x) } : Tb).enc := by
  subst ho
  have qi : i = 0 ∨ i = 1 ∨ i = 2 ∨ i = 3 ∨ i = 4 ∨ i = 5 ∨ i = 6 ∨ i = 7 := by omega
  rcases qi with rfl | rfl | rfl | rfl | rfl | rfl | rfl | rfl <;> rfl
structure Ci where
  state : Int
  why : Int
  weClosed : Bool
  finSent : Bool
  finAcked : Bool
  peerFin : Bool
  sndUna : Int
  sndNxt : Int
  rcvNxt : Int
  queued : Int
  unsent : Int
  avail : Int
  held : Int
  peerWnd : Int
  timer : Int
  retries : Int
  credit : Int
  quietLeft : Int
def Ci.enc (s : Ci) : Array Value := #[.int .i64 s.state, .int .i64 s.why, .bool s.weClosed, .bool s.finSent, .bool s.finAcked, .bool s.peerFin, .int .i64 s.sndUna, .int .i64 s.sndNxt, .int .i64 s.rcvNxt, .int .i64 s.queued, .int .i64 s.unsent, .int .i64 s.avail, .int .i64 s.held, .int .i64 s.peerWnd, .int .i64 s.timer, .int .i64 s.retries, .int .i64 s.credit, .int .i64 s.quietLeft]
theorem Ci.g0 {v0 : Int} {v1 : Int} {v2 : Bool} {v3 : Bool} {v4 : Bool} {v5 : Bool} {v6 : Int} {v7 : Int} {v8 : Int} {v9 : Int} {v10 : Int} {v11 : Int} {v12 : Int} {v13 : Int} {v14 : Int} {v15 : Int} {v16 : Int} {v17 : Int} : (Ci.enc (Ci.mk v0 v1 v2 v3 v4 v5 v6 v7 v8 v9 v10 v11 v12 v13 v14 v15 v16 v17))[0]? = some (.int .i64 v0) := rfl
theorem Ci.s0 {v0 : Int} {v1 : Int} {v2 : Bool} {v3 : Bool} {v4 : Bool} {v5 : Bool} {v6 : Int} {v7 : Int} {v8 : Int} {v9 : Int} {v10 : Int} {v11 : Int} {v12 : Int} {v13 : Int} {v14 : Int} {v15 : Int} {v16 : Int} {v17 : Int} {x : Int} : (Ci.enc (Ci.mk v0 v1 v2 v3 v4 v5 v6 v7 v8 v9 v10 v11 v12 v13 v14 v15 v16 v17)).setIfInBounds 0 (.int .i64 x) = Ci.enc (Ci.mk x v1 v2 v3 v4 v5 v6 v7 v8 v9 v10 v11 v12 v13 v14 v15 v16 v17) := rfl
theorem Ci.g1 {v0 : Int} {v1 : Int} {v2 : Bool} {v3 : Bool} {v4 : Bool} {v5 : Bool} {v6 : Int} {v7 : Int} {v8 : Int} {v9 : Int} {v10 : Int} {v11 : Int} {v12 : Int} {v13 : Int} {v14 : Int} {v15 : Int} {v16 : Int} {v17 : Int} : (Ci.enc (Ci.mk v0 v1 v2 v3 v4 v5 v6 v7 v8 v9 v10 v11 v12 v13 v14 v15 v16 v17))[1]? = some (.int .i64 v1) := rfl
theorem Ci.s1 {v0 : Int} {v1 : Int} {v2 : Bool} {v3 : Bool} {v4 : Bool} {v5 : Bool} {v6 : Int} {v7 : Int} {v8 : Int} {v9 : Int} {v10 : Int} {v11 : Int} {v12 : Int} {v13 : Int} {v14 : Int} {v15 : Int} {v16 : Int} {v17 : Int} {x : Int} : (Ci.enc (Ci.mk v0 v1 v2 v3 v4 v5 v6 v7 v8 v9 v10 v11 v12 v13 v14 v15 v16 v17)).setIfInBounds 1 (.int .i64 x) = Ci.enc (Ci.mk v0 x v2 v3 v4 v5 v6 v7 v8 v9 v10 v11 v12 v13 v14 v15 v16 v17) := rfl
theorem Ci.g2 {v0 : Int} {v1 : Int} {v2 : Bool} {v3 : Bool} {v4 : Bool} {v5 : Bool} {v6 : Int} {v7 : Int} {v8 : Int} {v9 : Int} {v10 : Int} {v11 : Int} {v12 : Int} {v13 : Int} {v14 : Int} {v15 : Int} {v16 : Int} {v17 : Int} : (Ci.enc (Ci.mk v0 v1 v2 v3 v4 v5 v6 v7 v8 v9 v10 v11 v12 v13 v14 v15 v16 v17))[2]? = some (.bool v2) := rfl
theorem Ci.s2 {v0 : Int} {v1 : Int} {v2 : Bool} {v3 : Bool} {v4 : Bool} {v5 : Bool} {v6 : Int} {v7 : Int} {v8 : Int} {v9 : Int} {v10 : Int} {v11 : Int} {v12 : Int} {v13 : Int} {v14 : Int} {v15 : Int} {v16 : Int} {v17 : Int} {x : Bool} : (Ci.enc (Ci.mk v0 v1 v2 v3 v4 v5 v6 v7 v8 v9 v10 v11 v12 v13 v14 v15 v16 v17)).setIfInBounds 2 (.bool x) = Ci.enc (Ci.mk v0 v1 x v3 v4 v5 v6 v7 v8 v9 v10 v11 v12 v13 v14 v15 v16 v17) := rfl
theorem Ci.g3 {v0 : Int} {v1 : Int} {v2 : Bool} {v3 : Bool} {v4 : Bool} {v5 : Bool} {v6 : Int} {v7 : Int} {v8 : Int} {v9 : Int} {v10 : Int} {v11 : Int} {v12 : Int} {v13 : Int} {v14 : Int} {v15 : Int} {v16 : Int} {v17 : Int} : (Ci.enc (Ci.mk v0 v1 v2 v3 v4 v5 v6 v7 v8 v9 v10 v11 v12 v13 v14 v15 v16 v17))[3]? = some (.bool v3) := rfl
theorem Ci.s3 {v0 : Int} {v1 : Int} {v2 : Bool} {v3 : Bool} {v4 : Bool} {v5 : Bool} {v6 : Int} {v7 : Int} {v8 : Int} {v9 : Int} {v10 : Int} {v11 : Int} {v12 : Int} {v13 : Int} {v14 : Int} {v15 : Int} {v16 : Int} {v17 : Int} {x : Bool} : (Ci.enc (Ci.mk v0 v1 v2 v3 v4 v5 v6 v7 v8 v9 v10 v11 v12 v13 v14 v15 v16 v17)).setIfInBounds 3 (.bool x) = Ci.enc (Ci.mk v0 v1 v2 x v4 v5 v6 v7 v8 v9 v10 v11 v12 v13 v14 v15 v16 v17) := rfl
theorem Ci.g4 {v0 : Int} {v1 : Int} {v2 : Bool} {v3 : Bool} {v4 : Bool} {v5 : Bool} {v6 : Int} {v7 : Int} {v8 : Int} {v9 : Int} {v10 : Int} {v11 : Int} {v12 : Int} {v13 : Int} {v14 : Int} {v15 : Int} {v16 : Int} {v17 : Int} : (Ci.enc (Ci.mk v0 v1 v2 v3 v4 v5 v6 v7 v8 v9 v10 v11 v12 v13 v14 v15 v16 v17))[4]? = some (.bool v4) := rfl
theorem Ci.s4 {v0 : Int} {v1 : Int} {v2 : Bool} {v3 : Bool} {v4 : Bool} {v5 : Bool} {v6 : Int} {v7 : Int} {v8 : Int} {v9 : Int} {v10 : Int} {v11 : Int} {v12 : Int} {v13 : Int} {v14 : Int} {v15 : Int} {v16 : Int} {v17 : Int} {x : Bool} : (Ci.enc (Ci.mk v0 v1 v2 v3 v4 v5 v6 v7 v8 v9 v10 v11 v12 v13 v14 v15 v16 v17)).setIfInBounds 4 (.bool x) = Ci.enc (Ci.mk v0 v1 v2 v3 x v5 v6 v7 v8 v9 v10 v11 v12 v13 v14 v15 v16 v17) := rfl
theorem Ci.g5 {v0 : Int} {v1 : Int} {v2 : Bool} {v3 : Bool} {v4 : Bool} {v5 : Bool} {v6 : Int} {v7 : Int} {v8 : Int} {v9 : Int} {v10 : Int} {v11 : Int} {v12 : Int} {v13 : Int} {v14 : Int} {v15 : Int} {v16 : Int} {v17 : Int} : (Ci.enc (Ci.mk v0 v1 v2 v3 v4 v5 v6 v7 v8 v9 v10 v11 v12 v13 v14 v15 v16 v17))[5]? = some (.bool v5) := rfl
theorem Ci.s5 {v0 : Int} {v1 : Int} {v2 : Bool} {v3 : Bool} {v4 : Bool} {v5 : Bool} {v6 : Int} {v7 : Int} {v8 : Int} {v9 : Int} {v10 : Int} {v11 : Int} {v12 : Int} {v13 : Int} {v14 : Int} {v15 : Int} {v16 : Int} {v17 : Int} {x : Bool} : (Ci.enc (Ci.mk v0 v1 v2 v3 v4 v5 v6 v7 v8 v9 v10 v11 v12 v13 v14 v15 v16 v17)).setIfInBounds 5 (.bool x) = Ci.enc (Ci.mk v0 v1 v2 v3 v4 x v6 v7 v8 v9 v10 v11 v12 v13 v14 v15 v16 v17) := rfl
theorem Ci.g6 {v0 : Int} {v1 : Int} {v2 : Bool} {v3 : Bool} {v4 : Bool} {v5 : Bool} {v6 : Int} {v7 : Int} {v8 : Int} {v9 : Int} {v10 : Int} {v11 : Int} {v12 : Int} {v13 : Int} {v14 : Int} {v15 : Int} {v16 : Int} {v17 : Int} : (Ci.enc (Ci.mk v0 v1 v2 v3 v4 v5 v6 v7 v8 v9 v10 v11 v12 v13 v14 v15 v16 v17))[6]? = some (.int .i64 v6) := rfl
theorem Ci.s6 {v0 : Int} {v1 : Int} {v2 : Bool} {v3 : Bool} {v4 : Bool} {v5 : Bool} {v6 : Int} {v7 : Int} {v8 : Int} {v9 : Int} {v10 : Int} {v11 : Int} {v12 : Int} {v13 : Int} {v14 : Int} {v15 : Int} {v16 : Int} {v17 : Int} {x : Int} : (Ci.enc (Ci.mk v0 v1 v2 v3 v4 v5 v6 v7 v8 v9 v10 v11 v12 v13 v14 v15 v16 v17)).setIfInBounds 6 (.int .i64 x) = Ci.enc (Ci.mk v0 v1 v2 v3 v4 v5 x v7 v8 v9 v10 v11 v12 v13 v14 v15 v16 v17) := rfl
theorem Ci.g7 {v0 : Int} {v1 : Int} {v2 : Bool} {v3 : Bool} {v4 : Bool} {v5 : Bool} {v6 : Int} {v7 : Int} {v8 : Int} {v9 : Int} {v10 : Int} {v11 : Int} {v12 : Int} {v13 : Int} {v14 : Int} {v15 : Int} {v16 : Int} {v17 : Int} : (Ci.enc (Ci.mk v0 v1 v2 v3 v4 v5 v6 v7 v8 v9 v10 v11 v12 v13 v14 v15 v16 v17))[7]? = some (.int .i64 v7) := rfl
theorem Ci.s7 {v0 : Int} {v1 : Int} {v2 : Bool} {v3 : Bool} {v4 : Bool} {v5 : Bool} {v6 : Int} {v7 : Int} {v8 : Int} {v9 : Int} {v10 : Int} {v11 : Int} {v12 : Int} {v13 : Int} {v14 : Int} {v15 : Int} {v16 : Int} {v17 : Int} {x : Int} : (Ci.enc (Ci.mk v0 v1 v2 v3 v4 v5 v6 v7 v8 v9 v10 v11 v12 v13 v14 v15 v16 v17)).setIfInBounds 7 (.int .i64 x) = Ci.enc (Ci.mk v0 v1 v2 v3 v4 v5 v6 x v8 v9 v10 v11 v12 v13 v14 v15 v16 v17) := rfl
theorem Ci.g8 {v0 : Int} {v1 : Int} {v2 : Bool} {v3 : Bool} {v4 : Bool} {v5 : Bool} {v6 : Int} {v7 : Int} {v8 : Int} {v9 : Int} {v10 : Int} {v11 : Int} {v12 : Int} {v13 : Int} {v14 : Int} {v15 : Int} {v16 : Int} {v17 : Int} : (Ci.enc (Ci.mk v0 v1 v2 v3 v4 v5 v6 v7 v8 v9 v10 v11 v12 v13 v14 v15 v16 v17))[8]? = some (.int .i64 v8) := rfl
theorem Ci.s8 {v0 : Int} {v1 : Int} {v2 : Bool} {v3 : Bool} {v4 : Bool} {v5 : Bool} {v6 : Int} {v7 : Int} {v8 : Int} {v9 : Int} {v10 : Int} {v11 : Int} {v12 : Int} {v13 : Int} {v14 : Int} {v15 : Int} {v16 : Int} {v17 : Int} {x : Int} : (Ci.enc (Ci.mk v0 v1 v2 v3 v4 v5 v6 v7 v8 v9 v10 v11 v12 v13 v14 v15 v16 v17)).setIfInBounds 8 (.int .i64 x) = Ci.enc (Ci.mk v0 v1 v2 v3 v4 v5 v6 v7 x v9 v10 v11 v12 v13 v14 v15 v16 v17) := rfl
theorem Ci.g9 {v0 : Int} {v1 : Int} {v2 : Bool} {v3 : Bool} {v4 : Bool} {v5 : Bool} {v6 : Int} {v7 : Int} {v8 : Int} {v9 : Int} {v10 : Int} {v11 : Int} {v12 : Int} {v13 : Int} {v14 : Int} {v15 : Int} {v16 : Int} {v17 : Int} : (Ci.enc (Ci.mk v0 v1 v2 v3 v4 v5 v6 v7 v8 v9 v10 v11 v12 v13 v14 v15 v16 v17))[9]? = some (.int .i64 v9) := rfl
theorem Ci.s9 {v0 : Int} {v1 : Int} {v2 : Bool} {v3 : Bool} {v4 : Bool} {v5 : Bool} {v6 : Int} {v7 : Int} {v8 : Int} {v9 : Int} {v10 : Int} {v11 : Int} {v12 : Int} {v13 : Int} {v14 : Int} {v15 : Int} {v16 : Int} {v17 : Int} {x : Int} : (Ci.enc (Ci.mk v0 v1 v2 v3 v4 v5 v6 v7 v8 v9 v10 v11 v12 v13 v14 v15 v16 v17)).setIfInBounds 9 (.int .i64 x) = Ci.enc (Ci.mk v0 v1 v2 v3 v4 v5 v6 v7 v8 x v10 v11 v12 v13 v14 v15 v16 v17) := rfl
theorem Ci.g10 {v0 : Int} {v1 : Int} {v2 : Bool} {v3 : Bool} {v4 : Bool} {v5 : Bool} {v6 : Int} {v7 : Int} {v8 : Int} {v9 : Int} {v10 : Int} {v11 : Int} {v12 : Int} {v13 : Int} {v14 : Int} {v15 : Int} {v16 : Int} {v17 : Int} : (Ci.enc (Ci.mk v0 v1 v2 v3 v4 v5 v6 v7 v8 v9 v10 v11 v12 v13 v14 v15 v16 v17))[10]? = some (.int .i64 v10) := rfl
theorem Ci.s10 {v0 : Int} {v1 : Int} {v2 : Bool} {v3 : Bool} {v4 : Bool} {v5 : Bool} {v6 : Int} {v7 : Int} {v8 : Int} {v9 : Int} {v10 : Int} {v11 : Int} {v12 : Int} {v13 : Int} {v14 : Int} {v15 : Int} {v16 : Int} {v17 : Int} {x : Int} : (Ci.enc (Ci.mk v0 v1 v2 v3 v4 v5 v6 v7 v8 v9 v10 v11 v12 v13 v14 v15 v16 v17)).setIfInBounds 10 (.int .i64 x) = Ci.enc (Ci.mk v0 v1 v2 v3 v4 v5 v6 v7 v8 v9 x v11 v12 v13 v14 v15 v16 v17) := rfl
theorem Ci.g11 {v0 : Int} {v1 : Int} {v2 : Bool} {v3 : Bool} {v4 : Bool} {v5 : Bool} {v6 : Int} {v7 : Int} {v8 : Int} {v9 : Int} {v10 : Int} {v11 : Int} {v12 : Int} {v13 : Int} {v14 : Int} {v15 : Int} {v16 : Int} {v17 : Int} : (Ci.enc (Ci.mk v0 v1 v2 v3 v4 v5 v6 v7 v8 v9 v10 v11 v12 v13 v14 v15 v16 v17))[11]? = some (.int .i64 v11) := rfl
theorem Ci.s11 {v0 : Int} {v1 : Int} {v2 : Bool} {v3 : Bool} {v4 : Bool} {v5 : Bool} {v6 : Int} {v7 : Int} {v8 : Int} {v9 : Int} {v10 : Int} {v11 : Int} {v12 : Int} {v13 : Int} {v14 : Int} {v15 : Int} {v16 : Int} {v17 : Int} {x : Int} : (Ci.enc (Ci.mk v0 v1 v2 v3 v4 v5 v6 v7 v8 v9 v10 v11 v12 v13 v14 v15 v16 v17)).setIfInBounds 11 (.int .i64 x) = Ci.enc (Ci.mk v0 v1 v2 v3 v4 v5 v6 v7 v8 v9 v10 x v12 v13 v14 v15 v16 v17) := rfl
theorem Ci.g12 {v0 : Int} {v1 : Int} {v2 : Bool} {v3 : Bool} {v4 : Bool} {v5 : Bool} {v6 : Int} {v7 : Int} {v8 : Int} {v9 : Int} {v10 : Int} {v11 : Int} {v12 : Int} {v13 : Int} {v14 : Int} {v15 : Int} {v16 : Int} {v17 : Int} : (Ci.enc (Ci.mk v0 v1 v2 v3 v4 v5 v6 v7 v8 v9 v10 v11 v12 v13 v14 v15 v16 v17))[12]? = some (.int .i64 v12) := rfl
theorem Ci.s12 {v0 : Int} {v1 : Int} {v2 : Bool} {v3 : Bool} {v4 : Bool} {v5 : Bool} {v6 : Int} {v7 : Int} {v8 : Int} {v9 : Int} {v10 : Int} {v11 : Int} {v12 : Int} {v13 : Int} {v14 : Int} {v15 : Int} {v16 : Int} {v17 : Int} {x : Int} : (Ci.enc (Ci.mk v0 v1 v2 v3 v4 v5 v6 v7 v8 v9 v10 v11 v12 v13 v14 v15 v16 v17)).setIfInBounds 12 (.int .i64 x) = Ci.enc (Ci.mk v0 v1 v2 v3 v4 v5 v6 v7 v8 v9 v10 v11 x v13 v14 v15 v16 v17) := rfl
theorem Ci.g13 {v0 : Int} {v1 : Int} {v2 : Bool} {v3 : Bool} {v4 : Bool} {v5 : Bool} {v6 : Int} {v7 : Int} {v8 : Int} {v9 : Int} {v10 : Int} {v11 : Int} {v12 : Int} {v13 : Int} {v14 : Int} {v15 : Int} {v16 : Int} {v17 : Int} : (Ci.enc (Ci.mk v0 v1 v2 v3 v4 v5 v6 v7 v8 v9 v10 v11 v12 v13 v14 v15 v16 v17))[13]? = some (.int .i64 v13) := rfl
theorem Ci.s13 {v0 : Int} {v1 : Int} {v2 : Bool} {v3 : Bool} {v4 : Bool} {v5 : Bool} {v6 : Int} {v7 : Int} {v8 : Int} {v9 : Int} {v10 : Int} {v11 : Int} {v12 : Int} {v13 : Int} {v14 : Int} {v15 : Int} {v16 : Int} {v17 : Int} {x : Int} : (Ci.enc (Ci.mk v0 v1 v2 v3 v4 v5 v6 v7 v8 v9 v10 v11 v12 v13 v14 v15 v16 v17)).setIfInBounds 13 (.int .i64 x) = Ci.enc (Ci.mk v0 v1 v2 v3 v4 v5 v6 v7 v8 v9 v10 v11 v12 x v14 v15 v16 v17) := rfl
theorem Ci.g14 {v0 : Int} {v1 : Int} {v2 : Bool} {v3 : Bool} {v4 : Bool} {v5 : Bool} {v6 : Int} {v7 : Int} {v8 : Int} {v9 : Int} {v10 : Int} {v11 : Int} {v12 : Int} {v13 : Int} {v14 : Int} {v15 : Int} {v16 : Int} {v17 : Int} : (Ci.enc (Ci.mk v0 v1 v2 v3 v4 v5 v6 v7 v8 v9 v10 v11 v12 v13 v14 v15 v16 v17))[14]? = some (.int .i64 v14) := rfl
theorem Ci.s14 {v0 : Int} {v1 : Int} {v2 : Bool} {v3 : Bool} {v4 : Bool} {v5 : Bool} {v6 : Int} {v7 : Int} {v8 : Int} {v9 : Int} {v10 : Int} {v11 : Int} {v12 : Int} {v13 : Int} {v14 : Int} {v15 : Int} {v16 : Int} {v17 : Int} {x : Int} : (Ci.enc (Ci.mk v0 v1 v2 v3 v4 v5 v6 v7 v8 v9 v10 v11 v12 v13 v14 v15 v16 v17)).setIfInBounds 14 (.int .i64 x) = Ci.enc (Ci.mk v0 v1 v2 v3 v4 v5 v6 v7 v8 v9 v10 v11 v12 v13 x v15 v16 v17) := rfl
theorem Ci.g15 {v0 : Int} {v1 : Int} {v2 : Bool} {v3 : Bool} {v4 : Bool} {v5 : Bool} {v6 : Int} {v7 : Int} {v8 : Int} {v9 : Int} {v10 : Int} {v11 : Int} {v12 : Int} {v13 : Int} {v14 : Int} {v15 : Int} {v16 : Int} {v17 : Int} : (Ci.enc (Ci.mk v0 v1 v2 v3 v4 v5 v6 v7 v8 v9 v10 v11 v12 v13 v14 v15 v16 v17))[15]? = some (.int .i64 v15) := rfl
theorem Ci.s15 {v0 : Int} {v1 : Int} {v2 : Bool} {v3 : Bool} {v4 : Bool} {v5 : Bool} {v6 : Int} {v7 : Int} {v8 : Int} {v9 : Int} {v10 : Int} {v11 : Int} {v12 : Int} {v13 : Int} {v14 : Int} {v15 : Int} {v16 : Int} {v17 : Int} {x : Int} : (Ci.enc (Ci.mk v0 v1 v2 v3 v4 v5 v6 v7 v8 v9 v10 v11 v12 v13 v14 v15 v16 v17)).setIfInBounds 15 (.int .i64 x) = Ci.enc (Ci.mk v0 v1 v2 v3 v4 v5 v6 v7 v8 v9 v10 v11 v12 v13 v14 x v16 v17) := rfl
theorem Ci.g16 {v0 : Int} {v1 : Int} {v2 : Bool} {v3 : Bool} {v4 : Bool} {v5 : Bool} {v6 : Int} {v7 : Int} {v8 : Int} {v9 : Int} {v10 : Int} {v11 : Int} {v12 : Int} {v13 : Int} {v14 : Int} {v15 : Int} {v16 : Int} {v17 : Int} : (Ci.enc (Ci.mk v0 v1 v2 v3 v4 v5 v6 v7 v8 v9 v10 v11 v12 v13 v14 v15 v16 v17))[16]? = some (.int .i64 v16) := rfl
theorem Ci.s16 {v0 : Int} {v1 : Int} {v2 : Bool} {v3 : Bool} {v4 : Bool} {v5 : Bool} {v6 : Int} {v7 : Int} {v8 : Int} {v9 : Int} {v10 : Int} {v11 : Int} {v12 : Int} {v13 : Int} {v14 : Int} {v15 : Int} {v16 : Int} {v17 : Int} {x : Int} : (Ci.enc (Ci.mk v0 v1 v2 v3 v4 v5 v6 v7 v8 v9 v10 v11 v12 v13 v14 v15 v16 v17)).setIfInBounds 16 (.int .i64 x) = Ci.enc (Ci.mk v0 v1 v2 v3 v4 v5 v6 v7 v8 v9 v10 v11 v12 v13 v14 v15 x v17) := rfl
theorem Ci.g17 {v0 : Int} {v1 : Int} {v2 : Bool} {v3 : Bool} {v4 : Bool} {v5 : Bool} {v6 : Int} {v7 : Int} {v8 : Int} {v9 : Int} {v10 : Int} {v11 : Int} {v12 : Int} {v13 : Int} {v14 : Int} {v15 : Int} {v16 : Int} {v17 : Int} : (Ci.enc (Ci.mk v0 v1 v2 v3 v4 v5 v6 v7 v8 v9 v10 v11 v12 v13 v14 v15 v16 v17))[17]? = some (.int .i64 v17) := rfl
theorem Ci.s17 {v0 : Int} {v1 : Int} {v2 : Bool} {v3 : Bool} {v4 : Bool} {v5 : Bool} {v6 : Int} {v7 : Int} {v8 : Int} {v9 : Int} {v10 : Int} {v11 : Int} {v12 : Int} {v13 : Int} {v14 : Int} {v15 : Int} {v16 : Int} {v17 : Int} {x : Int} : (Ci.enc (Ci.mk v0 v1 v2 v3 v4 v5 v6 v7 v8 v9 v10 v11 v12 v13 v14 v15 v16 v17)).setIfInBounds 17 (.int .i64 x) = Ci.enc (Ci.mk v0 v1 v2 v3 v4 v5 v6 v7 v8 v9 v10 v11 v12 v13 v14 v15 v16 x) := rfl
theorem Ci.size {s : Ci} : s.enc.size = 18 := rfl
def Ci.zero : Ci := { state := 0, why := 0, weClosed := false, finSent := false, finAcked := false, peerFin := false, sndUna := 0, sndNxt := 0, rcvNxt := 0, queued := 0, unsent := 0, avail := 0, held := 0, peerWnd := 0, timer := 0, retries := 0, credit := 0, quietLeft := 0 }

structure Si where
  entry : En
  conn : Value
def Si.enc (s : Si) : Array Value := #[.int .i64 s.entry.sd, .int .i64 s.entry.kind, .int .i64 s.entry.lPort, .int .i64 s.entry.rHost, .int .i64 s.entry.rPort, .int .i64 s.entry.slot, .int .i64 s.entry.parent, .bool s.entry.ready, s.conn]
theorem Si.g0 {v0 : Int} {v1 : Int} {v2 : Int} {v3 : Int} {v4 : Int} {v5 : Int} {v6 : Int} {v7 : Bool} {v8 : Value} : (Si.enc (Si.mk (En.mk v0 v1 v2 v3 v4 v5 v6 v7) v8))[0]? = some (.int .i64 v0) := rfl
theorem Si.s0 {v0 : Int} {v1 : Int} {v2 : Int} {v3 : Int} {v4 : Int} {v5 : Int} {v6 : Int} {v7 : Bool} {v8 : Value} {x : Int} : (Si.enc (Si.mk (En.mk v0 v1 v2 v3 v4 v5 v6 v7) v8)).setIfInBounds 0 (.int .i64 x) = Si.enc (Si.mk (En.mk x v1 v2 v3 v4 v5 v6 v7) v8) := rfl
theorem Si.g1 {v0 : Int} {v1 : Int} {v2 : Int} {v3 : Int} {v4 : Int} {v5 : Int} {v6 : Int} {v7 : Bool} {v8 : Value} : (Si.enc (Si.mk (En.mk v0 v1 v2 v3 v4 v5 v6 v7) v8))[1]? = some (.int .i64 v1) := rfl
theorem Si.s1 {v0 : Int} {v1 : Int} {v2 : Int} {v3 : Int} {v4 : Int} {v5 : Int} {v6 : Int} {v7 : Bool} {v8 : Value} {x : Int} : (Si.enc (Si.mk (En.mk v0 v1 v2 v3 v4 v5 v6 v7) v8)).setIfInBounds 1 (.int .i64 x) = Si.enc (Si.mk (En.mk v0 x v2 v3 v4 v5 v6 v7) v8) := rfl
theorem Si.g2 {v0 : Int} {v1 : Int} {v2 : Int} {v3 : Int} {v4 : Int} {v5 : Int} {v6 : Int} {v7 : Bool} {v8 : Value} : (Si.enc (Si.mk (En.mk v0 v1 v2 v3 v4 v5 v6 v7) v8))[2]? = some (.int .i64 v2) := rfl
theorem Si.s2 {v0 : Int} {v1 : Int} {v2 : Int} {v3 : Int} {v4 : Int} {v5 : Int} {v6 : Int} {v7 : Bool} {v8 : Value} {x : Int} : (Si.enc (Si.mk (En.mk v0 v1 v2 v3 v4 v5 v6 v7) v8)).setIfInBounds 2 (.int .i64 x) = Si.enc (Si.mk (En.mk v0 v1 x v3 v4 v5 v6 v7) v8) := rfl
theorem Si.g3 {v0 : Int} {v1 : Int} {v2 : Int} {v3 : Int} {v4 : Int} {v5 : Int} {v6 : Int} {v7 : Bool} {v8 : Value} : (Si.enc (Si.mk (En.mk v0 v1 v2 v3 v4 v5 v6 v7) v8))[3]? = some (.int .i64 v3) := rfl
theorem Si.s3 {v0 : Int} {v1 : Int} {v2 : Int} {v3 : Int} {v4 : Int} {v5 : Int} {v6 : Int} {v7 : Bool} {v8 : Value} {x : Int} : (Si.enc (Si.mk (En.mk v0 v1 v2 v3 v4 v5 v6 v7) v8)).setIfInBounds 3 (.int .i64 x) = Si.enc (Si.mk (En.mk v0 v1 v2 x v4 v5 v6 v7) v8) := rfl
theorem Si.g4 {v0 : Int} {v1 : Int} {v2 : Int} {v3 : Int} {v4 : Int} {v5 : Int} {v6 : Int} {v7 : Bool} {v8 : Value} : (Si.enc (Si.mk (En.mk v0 v1 v2 v3 v4 v5 v6 v7) v8))[4]? = some (.int .i64 v4) := rfl
theorem Si.s4 {v0 : Int} {v1 : Int} {v2 : Int} {v3 : Int} {v4 : Int} {v5 : Int} {v6 : Int} {v7 : Bool} {v8 : Value} {x : Int} : (Si.enc (Si.mk (En.mk v0 v1 v2 v3 v4 v5 v6 v7) v8)).setIfInBounds 4 (.int .i64 x) = Si.enc (Si.mk (En.mk v0 v1 v2 v3 x v5 v6 v7) v8) := rfl
theorem Si.g5 {v0 : Int} {v1 : Int} {v2 : Int} {v3 : Int} {v4 : Int} {v5 : Int} {v6 : Int} {v7 : Bool} {v8 : Value} : (Si.enc (Si.mk (En.mk v0 v1 v2 v3 v4 v5 v6 v7) v8))[5]? = some (.int .i64 v5) := rfl
theorem Si.s5 {v0 : Int} {v1 : Int} {v2 : Int} {v3 : Int} {v4 : Int} {v5 : Int} {v6 : Int} {v7 : Bool} {v8 : Value} {x : Int} : (Si.enc (Si.mk (En.mk v0 v1 v2 v3 v4 v5 v6 v7) v8)).setIfInBounds 5 (.int .i64 x) = Si.enc (Si.mk (En.mk v0 v1 v2 v3 v4 x v6 v7) v8) := rfl
theorem Si.g6 {v0 : Int} {v1 : Int} {v2 : Int} {v3 : Int} {v4 : Int} {v5 : Int} {v6 : Int} {v7 : Bool} {v8 : Value} : (Si.enc (Si.mk (En.mk v0 v1 v2 v3 v4 v5 v6 v7) v8))[6]? = some (.int .i64 v6) := rfl
theorem Si.s6 {v0 : Int} {v1 : Int} {v2 : Int} {v3 : Int} {v4 : Int} {v5 : Int} {v6 : Int} {v7 : Bool} {v8 : Value} {x : Int} : (Si.enc (Si.mk (En.mk v0 v1 v2 v3 v4 v5 v6 v7) v8)).setIfInBounds 6 (.int .i64 x) = Si.enc (Si.mk (En.mk v0 v1 v2 v3 v4 v5 x v7) v8) := rfl
theorem Si.g7 {v0 : Int} {v1 : Int} {v2 : Int} {v3 : Int} {v4 : Int} {v5 : Int} {v6 : Int} {v7 : Bool} {v8 : Value} : (Si.enc (Si.mk (En.mk v0 v1 v2 v3 v4 v5 v6 v7) v8))[7]? = some (.bool v7) := rfl
theorem Si.s7 {v0 : Int} {v1 : Int} {v2 : Int} {v3 : Int} {v4 : Int} {v5 : Int} {v6 : Int} {v7 : Bool} {v8 : Value} {x : Bool} : (Si.enc (Si.mk (En.mk v0 v1 v2 v3 v4 v5 v6 v7) v8)).setIfInBounds 7 (.bool x) = Si.enc (Si.mk (En.mk v0 v1 v2 v3 v4 v5 v6 x) v8) := rfl
theorem Si.g8 {v0 : Int} {v1 : Int} {v2 : Int} {v3 : Int} {v4 : Int} {v5 : Int} {v6 : Int} {v7 : Bool} {v8 : Value} : (Si.enc (Si.mk (En.mk v0 v1 v2 v3 v4 v5 v6 v7) v8))[8]? = some v8 := rfl
theorem Si.s8 {v0 : Int} {v1 : Int} {v2 : Int} {v3 : Int} {v4 : Int} {v5 : Int} {v6 : Int} {v7 : Bool} {v8 : Value} {x : Value} : (Si.enc (Si.mk (En.mk v0 v1 v2 v3 v4 v5 v6 v7) v8)).setIfInBounds 8 x = Si.enc (Si.mk (En.mk v0 v1 v2 v3 v4 v5 v6 v7) x) := rfl
theorem Si.size {s : Si} : s.enc.size = 9 := rfl
def Si.zero : Si := { entry := En.zero, conn := (.pointer none) }

structure Dg where
  src : Int
  dst : Int
  proto : Int
  data : Value
def Dg.enc (s : Dg) : Array Value := #[.int .i64 s.src, .int .i64 s.dst, .int .i64 s.proto, s.data]
theorem Dg.g0 {v0 : Int} {v1 : Int} {v2 : Int} {v3 : Value} : (Dg.enc (Dg.mk v0 v1 v2 v3))[0]? = some (.int .i64 v0) := rfl
theorem Dg.s0 {v0 : Int} {v1 : Int} {v2 : Int} {v3 : Value} {x : Int} : (Dg.enc (Dg.mk v0 v1 v2 v3)).setIfInBounds 0 (.int .i64 x) = Dg.enc (Dg.mk x v1 v2 v3) := rfl
theorem Dg.g1 {v0 : Int} {v1 : Int} {v2 : Int} {v3 : Value} : (Dg.enc (Dg.mk v0 v1 v2 v3))[1]? = some (.int .i64 v1) := rfl
theorem Dg.s1 {v0 : Int} {v1 : Int} {v2 : Int} {v3 : Value} {x : Int} : (Dg.enc (Dg.mk v0 v1 v2 v3)).setIfInBounds 1 (.int .i64 x) = Dg.enc (Dg.mk v0 x v2 v3) := rfl
theorem Dg.g2 {v0 : Int} {v1 : Int} {v2 : Int} {v3 : Value} : (Dg.enc (Dg.mk v0 v1 v2 v3))[2]? = some (.int .i64 v2) := rfl
theorem Dg.s2 {v0 : Int} {v1 : Int} {v2 : Int} {v3 : Value} {x : Int} : (Dg.enc (Dg.mk v0 v1 v2 v3)).setIfInBounds 2 (.int .i64 x) = Dg.enc (Dg.mk v0 v1 x v3) := rfl
theorem Dg.g3 {v0 : Int} {v1 : Int} {v2 : Int} {v3 : Value} : (Dg.enc (Dg.mk v0 v1 v2 v3))[3]? = some v3 := rfl
theorem Dg.s3 {v0 : Int} {v1 : Int} {v2 : Int} {v3 : Value} {x : Value} : (Dg.enc (Dg.mk v0 v1 v2 v3)).setIfInBounds 3 x = Dg.enc (Dg.mk v0 v1 v2 x) := rfl
theorem Dg.size {s : Dg} : s.enc.size = 4 := rfl
def Dg.zero : Dg := { src := 0, dst := 0, proto := 0, data := (.slice none 0 0) }

structure Fr where
  dst : Int
  src : Int
  typ : Int
  payload : Value
def Fr.enc (s : Fr) : Array Value := #[.int .i64 s.dst, .int .i64 s.src, .int .i64 s.typ, s.payload]
theorem Fr.g0 {v0 : Int} {v1 : Int} {v2 : Int} {v3 : Value} : (Fr.enc (Fr.mk v0 v1 v2 v3))[0]? = some (.int .i64 v0) := rfl
theorem Fr.s0 {v0 : Int} {v1 : Int} {v2 : Int} {v3 : Value} {x : Int} : (Fr.enc (Fr.mk v0 v1 v2 v3)).setIfInBounds 0 (.int .i64 x) = Fr.enc (Fr.mk x v1 v2 v3) := rfl
theorem Fr.g1 {v0 : Int} {v1 : Int} {v2 : Int} {v3 : Value} : (Fr.enc (Fr.mk v0 v1 v2 v3))[1]? = some (.int .i64 v1) := rfl
theorem Fr.s1 {v0 : Int} {v1 : Int} {v2 : Int} {v3 : Value} {x : Int} : (Fr.enc (Fr.mk v0 v1 v2 v3)).setIfInBounds 1 (.int .i64 x) = Fr.enc (Fr.mk v0 x v2 v3) := rfl
theorem Fr.g2 {v0 : Int} {v1 : Int} {v2 : Int} {v3 : Value} : (Fr.enc (Fr.mk v0 v1 v2 v3))[2]? = some (.int .i64 v2) := rfl
theorem Fr.s2 {v0 : Int} {v1 : Int} {v2 : Int} {v3 : Value} {x : Int} : (Fr.enc (Fr.mk v0 v1 v2 v3)).setIfInBounds 2 (.int .i64 x) = Fr.enc (Fr.mk v0 v1 x v3) := rfl
theorem Fr.g3 {v0 : Int} {v1 : Int} {v2 : Int} {v3 : Value} : (Fr.enc (Fr.mk v0 v1 v2 v3))[3]? = some v3 := rfl
theorem Fr.s3 {v0 : Int} {v1 : Int} {v2 : Int} {v3 : Value} {x : Value} : (Fr.enc (Fr.mk v0 v1 v2 v3)).setIfInBounds 3 x = Fr.enc (Fr.mk v0 v1 v2 x) := rfl
theorem Fr.size {s : Fr} : s.enc.size = 4 := rfl
def Fr.zero : Fr := { dst := 0, src := 0, typ := 0, payload := (.slice none 0 0) }

structure Hs where
  addr : Int
  clock : Int
  lost : Int
  dropped : (Nat → Int)
  l : Value
  p : Value
  c : (Nat → Value)
  t : Value
def Hs.enc (s : Hs) : Array Value := #[.int .i64 s.addr, .int .i64 s.clock, .int .i64 s.lost, .int .i64 (s.dropped 0), .int .i64 (s.dropped 1), .int .i64 (s.dropped 2), .int .i64 (s.dropped 3), .int .i64 (s.dropped 4), .int .i64 (s.dropped 5), .int .i64 (s.dropped 6), .int .i64 (s.dropped 7), s.l, s.p, (s.c 0), (s.c 1), (s.c 2), (s.c 3), s.t]
theorem Hs.g0 {v0 : Int} {v1 : Int} {v2 : Int} {v3 : (Nat → Int)} {v4 : Value} {v5 : Value} {v6 : (Nat → Value)} {v7 : Value} : (Hs.enc (Hs.mk v0 v1 v2 v3 v4 v5 v6 v7))[0]? = some (.int .i64 v0) := rfl
theorem Hs.s0 {v0 : Int} {v1 : Int} {v2 : Int} {v3 : (Nat → Int)} {v4 : Value} {v5 : Value} {v6 : (Nat → Value)} {v7 : Value} {x : Int} : (Hs.enc (Hs.mk v0 v1 v2 v3 v4 v5 v6 v7)).setIfInBounds 0 (.int .i64 x) = Hs.enc (Hs.mk x v1 v2 v3 v4 v5 v6 v7) := rfl
theorem Hs.g1 {v0 : Int} {v1 : Int} {v2 : Int} {v3 : (Nat → Int)} {v4 : Value} {v5 : Value} {v6 : (Nat → Value)} {v7 : Value} : (Hs.enc (Hs.mk v0 v1 v2 v3 v4 v5 v6 v7))[1]? = some (.int .i64 v1) := rfl
theorem Hs.s1 {v0 : Int} {v1 : Int} {v2 : Int} {v3 : (Nat → Int)} {v4 : Value} {v5 : Value} {v6 : (Nat → Value)} {v7 : Value} {x : Int} : (Hs.enc (Hs.mk v0 v1 v2 v3 v4 v5 v6 v7)).setIfInBounds 1 (.int .i64 x) = Hs.enc (Hs.mk v0 x v2 v3 v4 v5 v6 v7) := rfl
theorem Hs.g2 {v0 : Int} {v1 : Int} {v2 : Int} {v3 : (Nat → Int)} {v4 : Value} {v5 : Value} {v6 : (Nat → Value)} {v7 : Value} : (Hs.enc (Hs.mk v0 v1 v2 v3 v4 v5 v6 v7))[2]? = some (.int .i64 v2) := rfl
theorem Hs.s2 {v0 : Int} {v1 : Int} {v2 : Int} {v3 : (Nat → Int)} {v4 : Value} {v5 : Value} {v6 : (Nat → Value)} {v7 : Value} {x : Int} : (Hs.enc (Hs.mk v0 v1 v2 v3 v4 v5 v6 v7)).setIfInBounds 2 (.int .i64 x) = Hs.enc (Hs.mk v0 v1 x v3 v4 v5 v6 v7) := rfl
theorem Hs.g11 {v0 : Int} {v1 : Int} {v2 : Int} {v3 : (Nat → Int)} {v4 : Value} {v5 : Value} {v6 : (Nat → Value)} {v7 : Value} : (Hs.enc (Hs.mk v0 v1 v2 v3 v4 v5 v6 v7))[11]? = some v4 := rfl
theorem Hs.s11 {v0 : Int} {v1 : Int} {v2 : Int} {v3 : (Nat → Int)} {v4 : Value} {v5 : Value} {v6 : (Nat → Value)} {v7 : Value} {x : Value} : (Hs.enc (Hs.mk v0 v1 v2 v3 v4 v5 v6 v7)).setIfInBounds 11 x = Hs.enc (Hs.mk v0 v1 v2 v3 x v5 v6 v7) := rfl
theorem Hs.g12 {v0 : Int} {v1 : Int} {v2 : Int} {v3 : (Nat → Int)} {v4 : Value} {v5 : Value} {v6 : (Nat → Value)} {v7 : Value} : (Hs.enc (Hs.mk v0 v1 v2 v3 v4 v5 v6 v7))[12]? = some v5 := rfl
theorem Hs.s12 {v0 : Int} {v1 : Int} {v2 : Int} {v3 : (Nat → Int)} {v4 : Value} {v5 : Value} {v6 : (Nat → Value)} {v7 : Value} {x : Value} : (Hs.enc (Hs.mk v0 v1 v2 v3 v4 v5 v6 v7)).setIfInBounds 12 x = Hs.enc (Hs.mk v0 v1 v2 v3 v4 x v6 v7) := rfl
theorem Hs.g17 {v0 : Int} {v1 : Int} {v2 : Int} {v3 : (Nat → Int)} {v4 : Value} {v5 : Value} {v6 : (Nat → Value)} {v7 : Value} : (Hs.enc (Hs.mk v0 v1 v2 v3 v4 v5 v6 v7))[17]? = some v7 := rfl
theorem Hs.s17 {v0 : Int} {v1 : Int} {v2 : Int} {v3 : (Nat → Int)} {v4 : Value} {v5 : Value} {v6 : (Nat → Value)} {v7 : Value} {x : Value} : (Hs.enc (Hs.mk v0 v1 v2 v3 v4 v5 v6 v7)).setIfInBounds 17 x = Hs.enc (Hs.mk v0 v1 v2 v3 v4 v5 v6 x) := rfl
theorem Hs.size {s : Hs} : s.enc.size = 18 := rfl
def Hs.zero : Hs := { addr := 0, clock := 0, lost := 0, dropped := (fun _ => 0), l := (.pointer none), p := (.pointer none), c := (fun _ => (.pointer none)), t := (.pointer none) }
theorem Hs.g_dropped {s : Hs} {o : Nat} (i : Nat) (hi : i < 8) (ho : o = 3 + i * 1) : s.enc[o]? = some (.int .i64 (s.dropped i)) := by
  subst ho
  have qi : i = 0 ∨ i = 1 ∨ i = 2 ∨ i = 3 ∨ i = 4 ∨ i = 5 ∨ i = 6 ∨ i = 7 := by omega
  rcases qi with rfl | rfl | rfl | rfl | rfl | rfl | rfl | rfl <;> rfl
theorem Hs.s_dropped {s : Hs} {x : Int} {o : Nat} (i : Nat) (hi : i < 8) (ho : o = 3 + i * 1) : s.enc.setIfInBounds o (.int .i64 x) = ({ s with dropped := (upA s.dropped i x) } : Hs).enc := by
  subst ho
  have qi : i = 0 ∨ i = 1 ∨ i = 2 ∨ i = 3 ∨ i = 4 ∨ i = 5 ∨ i = 6 ∨ i = 7 := by omega
  rcases qi with rfl | rfl | rfl | rfl | rfl | rfl | rfl | rfl <;> rfl
theorem Hs.g_c {s : Hs} {o : Nat} (i : Nat) (hi : i < 4) (ho : o = 13 + i * 1) : s.enc[o]? = some (s.c i) := by
  subst ho
  have qi : i = 0 ∨ i = 1 ∨ i = 2 ∨ i = 3 := by omega
  rcases qi with rfl | rfl | rfl | rfl <;> rfl
theorem Hs.s_c {s : Hs} {x : Value} {o : Nat} (i : Nat) (hi : i < 4) (ho : o = 13 + i * 1) : s.enc.setIfInBounds o x = ({ s with c := (upA s.c i x) } : Hs).enc := by
  subst ho
  have qi : i = 0 ∨ i = 1 ∨ i = 2 ∨ i = 3 := by omega
  rcases qi with rfl | rfl | rfl | rfl <;> rfl
structure Bl where
  l : Value
  p : Value
  c : (Nat → Value)
  t : Value
def Bl.enc (s : Bl) : Array Value := #[s.l, s.p, (s.c 0), (s.c 1), (s.c 2), (s.c 3), s.t]
theorem Bl.g0 {v0 : Value} {v1 : Value} {v2 : (Nat → Value)} {v3 : Value} : (Bl.enc (Bl.mk v0 v1 v2 v3))[0]? = some v0 := rfl
theorem Bl.s0 {v0 : Value} {v1 : Value} {v2 : (Nat → Value)} {v3 : Value} {x : Value} : (Bl.enc (Bl.mk v0 v1 v2 v3)).setIfInBounds 0 x = Bl.enc (Bl.mk x v1 v2 v3) := rfl
theorem Bl.g1 {v0 : Value} {v1 : Value} {v2 : (Nat → Value)} {v3 : Value} : (Bl.enc (Bl.mk v0 v1 v2 v3))[1]? = some v1 := rfl
theorem Bl.s1 {v0 : Value} {v1 : Value} {v2 : (Nat → Value)} {v3 : Value} {x : Value} : (Bl.enc (Bl.mk v0 v1 v2 v3)).setIfInBounds 1 x = Bl.enc (Bl.mk v0 x v2 v3) := rfl
theorem Bl.g6 {v0 : Value} {v1 : Value} {v2 : (Nat → Value)} {v3 : Value} : (Bl.enc (Bl.mk v0 v1 v2 v3))[6]? = some v3 := rfl
theorem Bl.s6 {v0 : Value} {v1 : Value} {v2 : (Nat → Value)} {v3 : Value} {x : Value} : (Bl.enc (Bl.mk v0 v1 v2 v3)).setIfInBounds 6 x = Bl.enc (Bl.mk v0 v1 v2 x) := rfl
theorem Bl.size {s : Bl} : s.enc.size = 7 := rfl
def Bl.zero : Bl := { l := (.pointer none), p := (.pointer none), c := (fun _ => (.pointer none)), t := (.pointer none) }
theorem Bl.g_c {s : Bl} {o : Nat} (i : Nat) (hi : i < 4) (ho : o = 2 + i * 1) : s.enc[o]? = some (s.c i) := by
  subst ho
  have qi : i = 0 ∨ i = 1 ∨ i = 2 ∨ i = 3 := by omega
  rcases qi with rfl | rfl | rfl | rfl <;> rfl
theorem Bl.s_c {s : Bl} {x : Value} {o : Nat} (i : Nat) (hi : i < 4) (ho : o = 2 + i * 1) : s.enc.setIfInBounds o x = ({ s with c := (upA s.c i x) } : Bl).enc := by
  subst ho
  have qi : i = 0 ∨ i = 1 ∨ i = 2 ∨ i = 3 := by omega
  rcases qi with rfl | rfl | rfl | rfl <;> rfl
structure Wd where
  h : (Nat → Value)
  b : (Nat → Bl)
  q : (Nat → Value)
  quiet : Bool
  calm : Int
  w : Value
  n : Value
  top : (Nat → Int)
  seen : (Nat → Value)
  lost : (Nat → Int)
  out : (Nat → Int)
  ticks : Int
  flood : Bool
  spilt : Int
  ready : Value
  ints : Value
  outs : Value
  mine : Value
def Wd.enc (s : Wd) : Array Value := #[(s.h 0), (s.h 1), (s.h 2), (s.b 0).l, (s.b 0).p, ((s.b 0).c 0), ((s.b 0).c 1), ((s.b 0).c 2), ((s.b 0).c 3), (s.b 0).t, (s.b 1).l, (s.b 1).p, ((s.b 1).c 0), ((s.b 1).c 1), ((s.b 1).c 2), ((s.b 1).c 3), (s.b 1).t, (s.b 2).l, (s.b 2).p, ((s.b 2).c 0), ((s.b 2).c 1), ((s.b 2).c 2), ((s.b 2).c 3), (s.b 2).t, (s.q 0), (s.q 1), (s.q 2), .bool s.quiet, .int .i64 s.calm, s.w, s.n, .int .i64 (s.top 0), .int .i64 (s.top 1), .int .i64 (s.top 2), (s.seen 0), (s.seen 1), (s.seen 2), .int .i64 (s.lost 0), .int .i64 (s.lost 1), .int .i64 (s.lost 2), .int .i64 (s.out 0), .int .i64 (s.out 1), .int .i64 (s.out 2), .int .i64 s.ticks, .bool s.flood, .int .i64 s.spilt, s.ready, s.ints, s.outs, s.mine]
theorem Wd.g27 {v0 : (Nat → Value)} {v1 : (Nat → Bl)} {v2 : (Nat → Value)} {v3 : Bool} {v4 : Int} {v5 : Value} {v6 : Value} {v7 : (Nat → Int)} {v8 : (Nat → Value)} {v9 : (Nat → Int)} {v10 : (Nat → Int)} {v11 : Int} {v12 : Bool} {v13 : Int} {v14 : Value} {v15 : Value} {v16 : Value} {v17 : Value} : (Wd.enc (Wd.mk v0 v1 v2 v3 v4 v5 v6 v7 v8 v9 v10 v11 v12 v13 v14 v15 v16 v17))[27]? = some (.bool v3) := rfl
theorem Wd.s27 {v0 : (Nat → Value)} {v1 : (Nat → Bl)} {v2 : (Nat → Value)} {v3 : Bool} {v4 : Int} {v5 : Value} {v6 : Value} {v7 : (Nat → Int)} {v8 : (Nat → Value)} {v9 : (Nat → Int)} {v10 : (Nat → Int)} {v11 : Int} {v12 : Bool} {v13 : Int} {v14 : Value} {v15 : Value} {v16 : Value} {v17 : Value} {x : Bool} : (Wd.enc (Wd.mk v0 v1 v2 v3 v4 v5 v6 v7 v8 v9 v10 v11 v12 v13 v14 v15 v16 v17)).setIfInBounds 27 (.bool x) = Wd.enc (Wd.mk v0 v1 v2 x v4 v5 v6 v7 v8 v9 v10 v11 v12 v13 v14 v15 v16 v17) := rfl
theorem Wd.g28 {v0 : (Nat → Value)} {v1 : (Nat → Bl)} {v2 : (Nat → Value)} {v3 : Bool} {v4 : Int} {v5 : Value} {v6 : Value} {v7 : (Nat → Int)} {v8 : (Nat → Value)} {v9 : (Nat → Int)} {v10 : (Nat → Int)} {v11 : Int} {v12 : Bool} {v13 : Int} {v14 : Value} {v15 : Value} {v16 : Value} {v17 : Value} : (Wd.enc (Wd.mk v0 v1 v2 v3 v4 v5 v6 v7 v8 v9 v10 v11 v12 v13 v14 v15 v16 v17))[28]? = some (.int .i64 v4) := rfl
theorem Wd.s28 {v0 : (Nat → Value)} {v1 : (Nat → Bl)} {v2 : (Nat → Value)} {v3 : Bool} {v4 : Int} {v5 : Value} {v6 : Value} {v7 : (Nat → Int)} {v8 : (Nat → Value)} {v9 : (Nat → Int)} {v10 : (Nat → Int)} {v11 : Int} {v12 : Bool} {v13 : Int} {v14 : Value} {v15 : Value} {v16 : Value} {v17 : Value} {x : Int} : (Wd.enc (Wd.mk v0 v1 v2 v3 v4 v5 v6 v7 v8 v9 v10 v11 v12 v13 v14 v15 v16 v17)).setIfInBounds 28 (.int .i64 x) = Wd.enc (Wd.mk v0 v1 v2 v3 x v5 v6 v7 v8 v9 v10 v11 v12 v13 v14 v15 v16 v17) := rfl
theorem Wd.g29 {v0 : (Nat → Value)} {v1 : (Nat → Bl)} {v2 : (Nat → Value)} {v3 : Bool} {v4 : Int} {v5 : Value} {v6 : Value} {v7 : (Nat → Int)} {v8 : (Nat → Value)} {v9 : (Nat → Int)} {v10 : (Nat → Int)} {v11 : Int} {v12 : Bool} {v13 : Int} {v14 : Value} {v15 : Value} {v16 : Value} {v17 : Value} : (Wd.enc (Wd.mk v0 v1 v2 v3 v4 v5 v6 v7 v8 v9 v10 v11 v12 v13 v14 v15 v16 v17))[29]? = some v5 := rfl
theorem Wd.s29 {v0 : (Nat → Value)} {v1 : (Nat → Bl)} {v2 : (Nat → Value)} {v3 : Bool} {v4 : Int} {v5 : Value} {v6 : Value} {v7 : (Nat → Int)} {v8 : (Nat → Value)} {v9 : (Nat → Int)} {v10 : (Nat → Int)} {v11 : Int} {v12 : Bool} {v13 : Int} {v14 : Value} {v15 : Value} {v16 : Value} {v17 : Value} {x : Value} : (Wd.enc (Wd.mk v0 v1 v2 v3 v4 v5 v6 v7 v8 v9 v10 v11 v12 v13 v14 v15 v16 v17)).setIfInBounds 29 x = Wd.enc (Wd.mk v0 v1 v2 v3 v4 x v6 v7 v8 v9 v10 v11 v12 v13 v14 v15 v16 v17) := rfl
theorem Wd.g30 {v0 : (Nat → Value)} {v1 : (Nat → Bl)} {v2 : (Nat → Value)} {v3 : Bool} {v4 : Int} {v5 : Value} {v6 : Value} {v7 : (Nat → Int)} {v8 : (Nat → Value)} {v9 : (Nat → Int)} {v10 : (Nat → Int)} {v11 : Int} {v12 : Bool} {v13 : Int} {v14 : Value} {v15 : Value} {v16 : Value} {v17 : Value} : (Wd.enc (Wd.mk v0 v1 v2 v3 v4 v5 v6 v7 v8 v9 v10 v11 v12 v13 v14 v15 v16 v17))[30]? = some v6 := rfl
theorem Wd.s30 {v0 : (Nat → Value)} {v1 : (Nat → Bl)} {v2 : (Nat → Value)} {v3 : Bool} {v4 : Int} {v5 : Value} {v6 : Value} {v7 : (Nat → Int)} {v8 : (Nat → Value)} {v9 : (Nat → Int)} {v10 : (Nat → Int)} {v11 : Int} {v12 : Bool} {v13 : Int} {v14 : Value} {v15 : Value} {v16 : Value} {v17 : Value} {x : Value} : (Wd.enc (Wd.mk v0 v1 v2 v3 v4 v5 v6 v7 v8 v9 v10 v11 v12 v13 v14 v15 v16 v17)).setIfInBounds 30 x = Wd.enc (Wd.mk v0 v1 v2 v3 v4 v5 x v7 v8 v9 v10 v11 v12 v13 v14 v15 v16 v17) := rfl
theorem Wd.g43 {v0 : (Nat → Value)} {v1 : (Nat → Bl)} {v2 : (Nat → Value)} {v3 : Bool} {v4 : Int} {v5 : Value} {v6 : Value} {v7 : (Nat → Int)} {v8 : (Nat → Value)} {v9 : (Nat → Int)} {v10 : (Nat → Int)} {v11 : Int} {v12 : Bool} {v13 : Int} {v14 : Value} {v15 : Value} {v16 : Value} {v17 : Value} : (Wd.enc (Wd.mk v0 v1 v2 v3 v4 v5 v6 v7 v8 v9 v10 v11 v12 v13 v14 v15 v16 v17))[43]? = some (.int .i64 v11) := rfl
theorem Wd.s43 {v0 : (Nat → Value)} {v1 : (Nat → Bl)} {v2 : (Nat → Value)} {v3 : Bool} {v4 : Int} {v5 : Value} {v6 : Value} {v7 : (Nat → Int)} {v8 : (Nat → Value)} {v9 : (Nat → Int)} {v10 : (Nat → Int)} {v11 : Int} {v12 : Bool} {v13 : Int} {v14 : Value} {v15 : Value} {v16 : Value} {v17 : Value} {x : Int} : (Wd.enc (Wd.mk v0 v1 v2 v3 v4 v5 v6 v7 v8 v9 v10 v11 v12 v13 v14 v15 v16 v17)).setIfInBounds 43 (.int .i64 x) = Wd.enc (Wd.mk v0 v1 v2 v3 v4 v5 v6 v7 v8 v9 v10 x v12 v13 v14 v15 v16 v17) := rfl
theorem Wd.g44 {v0 : (Nat → Value)} {v1 : (Nat → Bl)} {v2 : (Nat → Value)} {v3 : Bool} {v4 : Int} {v5 : Value} {v6 : Value} {v7 : (Nat → Int)} {v8 : (Nat → Value)} {v9 : (Nat → Int)} {v10 : (Nat → Int)} {v11 : Int} {v12 : Bool} {v13 : Int} {v14 : Value} {v15 : Value} {v16 : Value} {v17 : Value} : (Wd.enc (Wd.mk v0 v1 v2 v3 v4 v5 v6 v7 v8 v9 v10 v11 v12 v13 v14 v15 v16 v17))[44]? = some (.bool v12) := rfl
theorem Wd.s44 {v0 : (Nat → Value)} {v1 : (Nat → Bl)} {v2 : (Nat → Value)} {v3 : Bool} {v4 : Int} {v5 : Value} {v6 : Value} {v7 : (Nat → Int)} {v8 : (Nat → Value)} {v9 : (Nat → Int)} {v10 : (Nat → Int)} {v11 : Int} {v12 : Bool} {v13 : Int} {v14 : Value} {v15 : Value} {v16 : Value} {v17 : Value} {x : Bool} : (Wd.enc (Wd.mk v0 v1 v2 v3 v4 v5 v6 v7 v8 v9 v10 v11 v12 v13 v14 v15 v16 v17)).setIfInBounds 44 (.bool x) = Wd.enc (Wd.mk v0 v1 v2 v3 v4 v5 v6 v7 v8 v9 v10 v11 x v13 v14 v15 v16 v17) := rfl
theorem Wd.g45 {v0 : (Nat → Value)} {v1 : (Nat → Bl)} {v2 : (Nat → Value)} {v3 : Bool} {v4 : Int} {v5 : Value} {v6 : Value} {v7 : (Nat → Int)} {v8 : (Nat → Value)} {v9 : (Nat → Int)} {v10 : (Nat → Int)} {v11 : Int} {v12 : Bool} {v13 : Int} {v14 : Value} {v15 : Value} {v16 : Value} {v17 : Value} : (Wd.enc (Wd.mk v0 v1 v2 v3 v4 v5 v6 v7 v8 v9 v10 v11 v12 v13 v14 v15 v16 v17))[45]? = some (.int .i64 v13) := rfl
theorem Wd.s45 {v0 : (Nat → Value)} {v1 : (Nat → Bl)} {v2 : (Nat → Value)} {v3 : Bool} {v4 : Int} {v5 : Value} {v6 : Value} {v7 : (Nat → Int)} {v8 : (Nat → Value)} {v9 : (Nat → Int)} {v10 : (Nat → Int)} {v11 : Int} {v12 : Bool} {v13 : Int} {v14 : Value} {v15 : Value} {v16 : Value} {v17 : Value} {x : Int} : (Wd.enc (Wd.mk v0 v1 v2 v3 v4 v5 v6 v7 v8 v9 v10 v11 v12 v13 v14 v15 v16 v17)).setIfInBounds 45 (.int .i64 x) = Wd.enc (Wd.mk v0 v1 v2 v3 v4 v5 v6 v7 v8 v9 v10 v11 v12 x v14 v15 v16 v17) := rfl
theorem Wd.g46 {v0 : (Nat → Value)} {v1 : (Nat → Bl)} {v2 : (Nat → Value)} {v3 : Bool} {v4 : Int} {v5 : Value} {v6 : Value} {v7 : (Nat → Int)} {v8 : (Nat → Value)} {v9 : (Nat → Int)} {v10 : (Nat → Int)} {v11 : Int} {v12 : Bool} {v13 : Int} {v14 : Value} {v15 : Value} {v16 : Value} {v17 : Value} : (Wd.enc (Wd.mk v0 v1 v2 v3 v4 v5 v6 v7 v8 v9 v10 v11 v12 v13 v14 v15 v16 v17))[46]? = some v14 := rfl
theorem Wd.s46 {v0 : (Nat → Value)} {v1 : (Nat → Bl)} {v2 : (Nat → Value)} {v3 : Bool} {v4 : Int} {v5 : Value} {v6 : Value} {v7 : (Nat → Int)} {v8 : (Nat → Value)} {v9 : (Nat → Int)} {v10 : (Nat → Int)} {v11 : Int} {v12 : Bool} {v13 : Int} {v14 : Value} {v15 : Value} {v16 : Value} {v17 : Value} {x : Value} : (Wd.enc (Wd.mk v0 v1 v2 v3 v4 v5 v6 v7 v8 v9 v10 v11 v12 v13 v14 v15 v16 v17)).setIfInBounds 46 x = Wd.enc (Wd.mk v0 v1 v2 v3 v4 v5 v6 v7 v8 v9 v10 v11 v12 v13 x v15 v16 v17) := rfl
theorem Wd.g47 {v0 : (Nat → Value)} {v1 : (Nat → Bl)} {v2 : (Nat → Value)} {v3 : Bool} {v4 : Int} {v5 : Value} {v6 : Value} {v7 : (Nat → Int)} {v8 : (Nat → Value)} {v9 : (Nat → Int)} {v10 : (Nat → Int)} {v11 : Int} {v12 : Bool} {v13 : Int} {v14 : Value} {v15 : Value} {v16 : Value} {v17 : Value} : (Wd.enc (Wd.mk v0 v1 v2 v3 v4 v5 v6 v7 v8 v9 v10 v11 v12 v13 v14 v15 v16 v17))[47]? = some v15 := rfl
theorem Wd.s47 {v0 : (Nat → Value)} {v1 : (Nat → Bl)} {v2 : (Nat → Value)} {v3 : Bool} {v4 : Int} {v5 : Value} {v6 : Value} {v7 : (Nat → Int)} {v8 : (Nat → Value)} {v9 : (Nat → Int)} {v10 : (Nat → Int)} {v11 : Int} {v12 : Bool} {v13 : Int} {v14 : Value} {v15 : Value} {v16 : Value} {v17 : Value} {x : Value} : (Wd.enc (Wd.mk v0 v1 v2 v3 v4 v5 v6 v7 v8 v9 v10 v11 v12 v13 v14 v15 v16 v17)).setIfInBounds 47 x = Wd.enc (Wd.mk v0 v1 v2 v3 v4 v5 v6 v7 v8 v9 v10 v11 v12 v13 v14 x v16 v17) := rfl
theorem Wd.g48 {v0 : (Nat → Value)} {v1 : (Nat → Bl)} {v2 : (Nat → Value)} {v3 : Bool} {v4 : Int} {v5 : Value} {v6 : Value} {v7 : (Nat → Int)} {v8 : (Nat → Value)} {v9 : (Nat → Int)} {v10 : (Nat → Int)} {v11 : Int} {v12 : Bool} {v13 : Int} {v14 : Value} {v15 : Value} {v16 : Value} {v17 : Value} : (Wd.enc (Wd.mk v0 v1 v2 v3 v4 v5 v6 v7 v8 v9 v10 v11 v12 v13 v14 v15 v16 v17))[48]? = some v16 := rfl
theorem Wd.s48 {v0 : (Nat → Value)} {v1 : (Nat → Bl)} {v2 : (Nat → Value)} {v3 : Bool} {v4 : Int} {v5 : Value} {v6 : Value} {v7 : (Nat → Int)} {v8 : (Nat → Value)} {v9 : (Nat → Int)} {v10 : (Nat → Int)} {v11 : Int} {v12 : Bool} {v13 : Int} {v14 : Value} {v15 : Value} {v16 : Value} {v17 : Value} {x : Value} : (Wd.enc (Wd.mk v0 v1 v2 v3 v4 v5 v6 v7 v8 v9 v10 v11 v12 v13 v14 v15 v16 v17)).setIfInBounds 48 x = Wd.enc (Wd.mk v0 v1 v2 v3 v4 v5 v6 v7 v8 v9 v10 v11 v12 v13 v14 v15 x v17) := rfl
theorem Wd.g49 {v0 : (Nat → Value)} {v1 : (Nat → Bl)} {v2 : (Nat → Value)} {v3 : Bool} {v4 : Int} {v5 : Value} {v6 : Value} {v7 : (Nat → Int)} {v8 : (Nat → Value)} {v9 : (Nat → Int)} {v10 : (Nat → Int)} {v11 : Int} {v12 : Bool} {v13 : Int} {v14 : Value} {v15 : Value} {v16 : Value} {v17 : Value} : (Wd.enc (Wd.mk v0 v1 v2 v3 v4 v5 v6 v7 v8 v9 v10 v11 v12 v13 v14 v15 v16 v17))[49]? = some v17 := rfl
theorem Wd.s49 {v0 : (Nat → Value)} {v1 : (Nat → Bl)} {v2 : (Nat → Value)} {v3 : Bool} {v4 : Int} {v5 : Value} {v6 : Value} {v7 : (Nat → Int)} {v8 : (Nat → Value)} {v9 : (Nat → Int)} {v10 : (Nat → Int)} {v11 : Int} {v12 : Bool} {v13 : Int} {v14 : Value} {v15 : Value} {v16 : Value} {v17 : Value} {x : Value} : (Wd.enc (Wd.mk v0 v1 v2 v3 v4 v5 v6 v7 v8 v9 v10 v11 v12 v13 v14 v15 v16 v17)).setIfInBounds 49 x = Wd.enc (Wd.mk v0 v1 v2 v3 v4 v5 v6 v7 v8 v9 v10 v11 v12 v13 v14 v15 v16 x) := rfl
theorem Wd.size {s : Wd} : s.enc.size = 50 := rfl
def Wd.zero : Wd := { h := (fun _ => (.pointer none)), b := (fun _ => Bl.zero), q := (fun _ => (.pointer none)), quiet := false, calm := 0, w := (.pointer none), n := (.pointer none), top := (fun _ => 0), seen := (fun _ => (.slice none 0 0)), lost := (fun _ => 0), out := (fun _ => 0), ticks := 0, flood := false, spilt := 0, ready := (.slice none 0 0), ints := (.slice none 0 0), outs := (.slice none 0 0), mine := (.slice none 0 0) }
theorem Wd.g_h {s : Wd} {o : Nat} (i : Nat) (hi : i < 3) (ho : o = 0 + i * 1) : s.enc[o]? = some (s.h i) := by
  subst ho
  have qi : i = 0 ∨ i = 1 ∨ i = 2 := by omega
  rcases qi with rfl | rfl | rfl <;> rfl
theorem Wd.s_h {s : Wd} {x : Value} {o : Nat} (i : Nat) (hi : i < 3) (ho : o = 0 + i * 1) : s.enc.setIfInBounds o x = ({ s with h := (upA s.h i x) } : Wd).enc := by
  subst ho
  have qi : i = 0 ∨ i = 1 ∨ i = 2 := by omega
  rcases qi with rfl | rfl | rfl <;> rfl
theorem Wd.g_b_l {s : Wd} {o : Nat} (i : Nat) (hi : i < 3) (ho : o = 3 + i * 7) : s.enc[o]? = some (s.b i).l := by
  subst ho
  have qi : i = 0 ∨ i = 1 ∨ i = 2 := by omega
  rcases qi with rfl | rfl | rfl <;> rfl
theorem Wd.s_b_l {s : Wd} {x : Value} {o : Nat} (i : Nat) (hi : i < 3) (ho : o = 3 + i * 7) : s.enc.setIfInBounds o x = ({ s with b := (upA s.b i { (s.b i) with l := x }) } : Wd).enc := by
  subst ho
  have qi : i = 0 ∨ i = 1 ∨ i = 2 := by omega
  rcases qi with rfl | rfl | rfl <;> rfl
theorem Wd.g_b_p {s : Wd} {o : Nat} (i : Nat) (hi : i < 3) (ho : o = 4 + i * 7) : s.enc[o]? = some (s.b i).p := by
  subst ho
  have qi : i = 0 ∨ i = 1 ∨ i = 2 := by omega
  rcases qi with rfl | rfl | rfl <;> rfl
theorem Wd.s_b_p {s : Wd} {x : Value} {o : Nat} (i : Nat) (hi : i < 3) (ho : o = 4 + i * 7) : s.enc.setIfInBounds o x = ({ s with b := (upA s.b i { (s.b i) with p := x }) } : Wd).enc := by
  subst ho
  have qi : i = 0 ∨ i = 1 ∨ i = 2 := by omega
  rcases qi with rfl | rfl | rfl <;> rfl
theorem Wd.g_b_c {s : Wd} {o : Nat} (i : Nat) (hi : i < 3) (j : Nat) (hj : j < 4) (ho : o = 5 + i * 7 + j * 1) : s.enc[o]? = some ((s.b i).c j) := by
  subst ho
  have qi : i = 0 ∨ i = 1 ∨ i = 2 := by omega
  have qj : j = 0 ∨ j = 1 ∨ j = 2 ∨ j = 3 := by omega
  rcases qi with rfl | rfl | rfl <;> rcases qj with rfl | rfl | rfl | rfl <;> rfl
theorem Wd.s_b_c {s : Wd} {x : Value} {o : Nat} (i : Nat) (hi : i < 3) (j : Nat) (hj : j < 4) (ho : o = 5 + i * 7 + j * 1) : s.enc.setIfInBounds o x = ({ s with b := (upA s.b i { (s.b i) with c := (upA (s.b i).c j x) }) } : Wd).enc := by
  subst ho
  have qi : i = 0 ∨ i = 1 ∨ i = 2 := by omega
  have qj : j = 0 ∨ j = 1 ∨ j = 2 ∨ j = 3 := by omega
  rcases qi with rfl | rfl | rfl <;> rcases qj with rfl | rfl | rfl | rfl <;> rfl
theorem Wd.g_b_t {s : Wd} {o : Nat} (i : Nat) (hi : i < 3) (ho : o = 9 + i * 7) : s.enc[o]? = some (s.b i).t := by
  subst ho
  have qi : i = 0 ∨ i = 1 ∨ i = 2 := by omega
  rcases qi with rfl | rfl | rfl <;> rfl
theorem Wd.s_b_t {s : Wd} {x : Value} {o : Nat} (i : Nat) (hi : i < 3) (ho : o = 9 + i * 7) : s.enc.setIfInBounds o x = ({ s with b := (upA s.b i { (s.b i) with t := x }) } : Wd).enc := by
  subst ho
  have qi : i = 0 ∨ i = 1 ∨ i = 2 := by omega
  rcases qi with rfl | rfl | rfl <;> rfl
theorem Wd.g_q {s : Wd} {o : Nat} (i : Nat) (hi : i < 3) (ho : o = 24 + i * 1) : s.enc[o]? = some (s.q i) := by
  subst ho
  have qi : i = 0 ∨ i = 1 ∨ i = 2 := by omega
  rcases qi with rfl | rfl | rfl <;> rfl
theorem Wd.s_q {s : Wd} {x : Value} {o : Nat} (i : Nat) (hi : i < 3) (ho : o = 24 + i * 1) : s.enc.setIfInBounds o x = ({ s with q := (upA s.q i x) } : Wd).enc := by
  subst ho
  have qi : i = 0 ∨ i = 1 ∨ i = 2 := by omega
  rcases qi with rfl | rfl | rfl <;> rfl
theorem Wd.g_top {s : Wd} {o : Nat} (i : Nat) (hi : i < 3) (ho : o = 31 + i * 1) : s.enc[o]? = some (.int .i64 (s.top i)) := by
  subst ho
  have qi : i = 0 ∨ i = 1 ∨ i = 2 := by omega
  rcases qi with rfl | rfl | rfl <;> rfl
theorem Wd.s_top {s : Wd} {x : Int} {o : Nat} (i : Nat) (hi : i < 3) (ho : o = 31 + i * 1) : s.enc.setIfInBounds o (.int .i64 x) = ({ s with top := (upA s.top i x) } : Wd).enc := by
  subst ho
  have qi : i = 0 ∨ i = 1 ∨ i = 2 := by omega
  rcases qi with rfl | rfl | rfl <;> rfl
theorem Wd.g_seen {s : Wd} {o : Nat} (i : Nat) (hi : i < 3) (ho : o = 34 + i * 1) : s.enc[o]? = some (s.seen i) := by
  subst ho
  have qi : i = 0 ∨ i = 1 ∨ i = 2 := by omega
  rcases qi with rfl | rfl | rfl <;> rfl
theorem Wd.s_seen {s : Wd} {x : Value} {o : Nat} (i : Nat) (hi : i < 3) (ho : o = 34 + i * 1) : s.enc.setIfInBounds o x = ({ s with seen := (upA s.seen i x) } : Wd).enc := by
  subst ho
  have qi : i = 0 ∨ i = 1 ∨ i = 2 := by omega
  rcases qi with rfl | rfl | rfl <;> rfl
theorem Wd.g_lost {s : Wd} {o : Nat} (i : Nat) (hi : i < 3) (ho : o = 37 + i * 1) : s.enc[o]? = some (.int .i64 (s.lost i)) := by
  subst ho
  have qi : i = 0 ∨ i = 1 ∨ i = 2 := by omega
  rcases qi with rfl | rfl | rfl <;> rfl
theorem Wd.s_lost {s : Wd} {x : Int} {o : Nat} (i : Nat) (hi : i < 3) (ho : o = 37 + i * 1) : s.enc.setIfInBounds o (.int .i64 x) = ({ s with lost := (upA s.lost i x) } : Wd).enc := by
  subst ho
  have qi : i = 0 ∨ i = 1 ∨ i = 2 := by omega
  rcases qi with rfl | rfl | rfl <;> rfl
theorem Wd.g_out {s : Wd} {o : Nat} (i : Nat) (hi : i < 3) (ho : o = 40 + i * 1) : s.enc[o]? = some (.int .i64 (s.out i)) := by
  subst ho
  have qi : i = 0 ∨ i = 1 ∨ i = 2 := by omega
  rcases qi with rfl | rfl | rfl <;> rfl
theorem Wd.s_out {s : Wd} {x : Int} {o : Nat} (i : Nat) (hi : i < 3) (ho : o = 40 + i * 1) : s.enc.setIfInBounds o (.int .i64 x) = ({ s with out := (upA s.out i x) } : Wd).enc := by
  subst ho
  have qi : i = 0 ∨ i = 1 ∨ i = 2 := by omega
  rcases qi with rfl | rfl | rfl <;> rfl
structure Wt where
  host : Int
  sd : Int
  parent : Int
def Wt.enc (s : Wt) : Array Value := #[.int .i64 s.host, .int .i64 s.sd, .int .i64 s.parent]
theorem Wt.g0 {v0 : Int} {v1 : Int} {v2 : Int} : (Wt.enc (Wt.mk v0 v1 v2))[0]? = some (.int .i64 v0) := rfl
theorem Wt.s0 {v0 : Int} {v1 : Int} {v2 : Int} {x : Int} : (Wt.enc (Wt.mk v0 v1 v2)).setIfInBounds 0 (.int .i64 x) = Wt.enc (Wt.mk x v1 v2) := rfl
theorem Wt.g1 {v0 : Int} {v1 : Int} {v2 : Int} : (Wt.enc (Wt.mk v0 v1 v2))[1]? = some (.int .i64 v1) := rfl
theorem Wt.s1 {v0 : Int} {v1 : Int} {v2 : Int} {x : Int} : (Wt.enc (Wt.mk v0 v1 v2)).setIfInBounds 1 (.int .i64 x) = Wt.enc (Wt.mk v0 x v2) := rfl
theorem Wt.g2 {v0 : Int} {v1 : Int} {v2 : Int} : (Wt.enc (Wt.mk v0 v1 v2))[2]? = some (.int .i64 v2) := rfl
theorem Wt.s2 {v0 : Int} {v1 : Int} {v2 : Int} {x : Int} : (Wt.enc (Wt.mk v0 v1 v2)).setIfInBounds 2 (.int .i64 x) = Wt.enc (Wt.mk v0 v1 x) := rfl
theorem Wt.size {s : Wt} : s.enc.size = 3 := rfl
def Wt.zero : Wt := { host := 0, sd := 0, parent := 0 }

structure Fl where
  raw : Value
  age : Int
  flipped : Bool
def Fl.enc (s : Fl) : Array Value := #[s.raw, .int .i64 s.age, .bool s.flipped]
theorem Fl.g0 {v0 : Value} {v1 : Int} {v2 : Bool} : (Fl.enc (Fl.mk v0 v1 v2))[0]? = some v0 := rfl
theorem Fl.s0 {v0 : Value} {v1 : Int} {v2 : Bool} {x : Value} : (Fl.enc (Fl.mk v0 v1 v2)).setIfInBounds 0 x = Fl.enc (Fl.mk x v1 v2) := rfl
theorem Fl.g1 {v0 : Value} {v1 : Int} {v2 : Bool} : (Fl.enc (Fl.mk v0 v1 v2))[1]? = some (.int .i64 v1) := rfl
theorem Fl.s1 {v0 : Value} {v1 : Int} {v2 : Bool} {x : Int} : (Fl.enc (Fl.mk v0 v1 v2)).setIfInBounds 1 (.int .i64 x) = Fl.enc (Fl.mk v0 x v2) := rfl
theorem Fl.g2 {v0 : Value} {v1 : Int} {v2 : Bool} : (Fl.enc (Fl.mk v0 v1 v2))[2]? = some (.bool v2) := rfl
theorem Fl.s2 {v0 : Value} {v1 : Int} {v2 : Bool} {x : Bool} : (Fl.enc (Fl.mk v0 v1 v2)).setIfInBounds 2 (.bool x) = Fl.enc (Fl.mk v0 v1 x) := rfl
theorem Fl.size {s : Fl} : s.enc.size = 3 := rfl
def Fl.zero : Fl := { raw := (.slice none 0 0), age := 0, flipped := false }

structure Wr where
  f : Value
def Wr.enc (s : Wr) : Array Value := #[s.f]
theorem Wr.g0 {v0 : Value} : (Wr.enc (Wr.mk v0))[0]? = some v0 := rfl
theorem Wr.s0 {v0 : Value} {x : Value} : (Wr.enc (Wr.mk v0)).setIfInBounds 0 x = Wr.enc (Wr.mk x) := rfl
theorem Wr.size {s : Wr} : s.enc.size = 1 := rfl
def Wr.zero : Wr := { f := (.slice none 0 0) }

structure Nt where
  ends : Value
  delivered : (Nat → Int)
def Nt.enc (s : Nt) : Array Value := #[s.ends, .int .i64 (s.delivered 0), .int .i64 (s.delivered 1), .int .i64 (s.delivered 2)]
theorem Nt.g0 {v0 : Value} {v1 : (Nat → Int)} : (Nt.enc (Nt.mk v0 v1))[0]? = some v0 := rfl
theorem Nt.s0 {v0 : Value} {v1 : (Nat → Int)} {x : Value} : (Nt.enc (Nt.mk v0 v1)).setIfInBounds 0 x = Nt.enc (Nt.mk x v1) := rfl
theorem Nt.size {s : Nt} : s.enc.size = 4 := rfl
def Nt.zero : Nt := { ends := (.slice none 0 0), delivered := (fun _ => 0) }
theorem Nt.g_delivered {s : Nt} {o : Nat} (i : Nat) (hi : i < 3) (ho : o = 1 + i * 1) : s.enc[o]? = some (.int .i64 (s.delivered i)) := by
  subst ho
  have qi : i = 0 ∨ i = 1 ∨ i = 2 := by omega
  rcases qi with rfl | rfl | rfl <;> rfl
theorem Nt.s_delivered {s : Nt} {x : Int} {o : Nat} (i : Nat) (hi : i < 3) (ho : o = 1 + i * 1) : s.enc.setIfInBounds o (.int .i64 x) = ({ s with delivered := (upA s.delivered i x) } : Nt).enc := by
  subst ho
  have qi : i = 0 ∨ i = 1 ∨ i = 2 := by omega
  rcases qi with rfl | rfl | rfl <;> rfl
structure Ed where
  host : Int
  sd : Int
  lPort : Int
  rHost : Int
  rPort : Int
  client : Bool
  peer : Int
  sent : Value
  rcvd : Value
  offered : Int
  state : Int
  why : Int
  closed : Bool
  peerFin : Bool
  wasOpen : Bool
  gone : Bool
def Ed.enc (s : Ed) : Array Value := #[.int .i64 s.host, .int .i64 s.sd, .int .i64 s.lPort, .int .i64 s.rHost, .int .i64 s.rPort, .bool s.client, .int .i64 s.peer, s.sent, s.rcvd, .int .i64 s.offered, .int .i64 s.state, .int .i64 s.why, .bool s.closed, .bool s.peerFin, .bool s.wasOpen, .bool s.gone]
theorem Ed.g0 {v0 : Int} {v1 : Int} {v2 : Int} {v3 : Int} {v4 : Int} {v5 : Bool} {v6 : Int} {v7 : Value} {v8 : Value} {v9 : Int} {v10 : Int} {v11 : Int} {v12 : Bool} {v13 : Bool} {v14 : Bool} {v15 : Bool} : (Ed.enc (Ed.mk v0 v1 v2 v3 v4 v5 v6 v7 v8 v9 v10 v11 v12 v13 v14 v15))[0]? = some (.int .i64 v0) := rfl
theorem Ed.s0 {v0 : Int} {v1 : Int} {v2 : Int} {v3 : Int} {v4 : Int} {v5 : Bool} {v6 : Int} {v7 : Value} {v8 : Value} {v9 : Int} {v10 : Int} {v11 : Int} {v12 : Bool} {v13 : Bool} {v14 : Bool} {v15 : Bool} {x : Int} : (Ed.enc (Ed.mk v0 v1 v2 v3 v4 v5 v6 v7 v8 v9 v10 v11 v12 v13 v14 v15)).setIfInBounds 0 (.int .i64 x) = Ed.enc (Ed.mk x v1 v2 v3 v4 v5 v6 v7 v8 v9 v10 v11 v12 v13 v14 v15) := rfl
theorem Ed.g1 {v0 : Int} {v1 : Int} {v2 : Int} {v3 : Int} {v4 : Int} {v5 : Bool} {v6 : Int} {v7 : Value} {v8 : Value} {v9 : Int} {v10 : Int} {v11 : Int} {v12 : Bool} {v13 : Bool} {v14 : Bool} {v15 : Bool} : (Ed.enc (Ed.mk v0 v1 v2 v3 v4 v5 v6 v7 v8 v9 v10 v11 v12 v13 v14 v15))[1]? = some (.int .i64 v1) := rfl
theorem Ed.s1 {v0 : Int} {v1 : Int} {v2 : Int} {v3 : Int} {v4 : Int} {v5 : Bool} {v6 : Int} {v7 : Value} {v8 : Value} {v9 : Int} {v10 : Int} {v11 : Int} {v12 : Bool} {v13 : Bool} {v14 : Bool} {v15 : Bool} {x : Int} : (Ed.enc (Ed.mk v0 v1 v2 v3 v4 v5 v6 v7 v8 v9 v10 v11 v12 v13 v14 v15)).setIfInBounds 1 (.int .i64 x) = Ed.enc (Ed.mk v0 x v2 v3 v4 v5 v6 v7 v8 v9 v10 v11 v12 v13 v14 v15) := rfl
theorem Ed.g2 {v0 : Int} {v1 : Int} {v2 : Int} {v3 : Int} {v4 : Int} {v5 : Bool} {v6 : Int} {v7 : Value} {v8 : Value} {v9 : Int} {v10 : Int} {v11 : Int} {v12 : Bool} {v13 : Bool} {v14 : Bool} {v15 : Bool} : (Ed.enc (Ed.mk v0 v1 v2 v3 v4 v5 v6 v7 v8 v9 v10 v11 v12 v13 v14 v15))[2]? = some (.int .i64 v2) := rfl
theorem Ed.s2 {v0 : Int} {v1 : Int} {v2 : Int} {v3 : Int} {v4 : Int} {v5 : Bool} {v6 : Int} {v7 : Value} {v8 : Value} {v9 : Int} {v10 : Int} {v11 : Int} {v12 : Bool} {v13 : Bool} {v14 : Bool} {v15 : Bool} {x : Int} : (Ed.enc (Ed.mk v0 v1 v2 v3 v4 v5 v6 v7 v8 v9 v10 v11 v12 v13 v14 v15)).setIfInBounds 2 (.int .i64 x) = Ed.enc (Ed.mk v0 v1 x v3 v4 v5 v6 v7 v8 v9 v10 v11 v12 v13 v14 v15) := rfl
theorem Ed.g3 {v0 : Int} {v1 : Int} {v2 : Int} {v3 : Int} {v4 : Int} {v5 : Bool} {v6 : Int} {v7 : Value} {v8 : Value} {v9 : Int} {v10 : Int} {v11 : Int} {v12 : Bool} {v13 : Bool} {v14 : Bool} {v15 : Bool} : (Ed.enc (Ed.mk v0 v1 v2 v3 v4 v5 v6 v7 v8 v9 v10 v11 v12 v13 v14 v15))[3]? = some (.int .i64 v3) := rfl
theorem Ed.s3 {v0 : Int} {v1 : Int} {v2 : Int} {v3 : Int} {v4 : Int} {v5 : Bool} {v6 : Int} {v7 : Value} {v8 : Value} {v9 : Int} {v10 : Int} {v11 : Int} {v12 : Bool} {v13 : Bool} {v14 : Bool} {v15 : Bool} {x : Int} : (Ed.enc (Ed.mk v0 v1 v2 v3 v4 v5 v6 v7 v8 v9 v10 v11 v12 v13 v14 v15)).setIfInBounds 3 (.int .i64 x) = Ed.enc (Ed.mk v0 v1 v2 x v4 v5 v6 v7 v8 v9 v10 v11 v12 v13 v14 v15) := rfl
theorem Ed.g4 {v0 : Int} {v1 : Int} {v2 : Int} {v3 : Int} {v4 : Int} {v5 : Bool} {v6 : Int} {v7 : Value} {v8 : Value} {v9 : Int} {v10 : Int} {v11 : Int} {v12 : Bool} {v13 : Bool} {v14 : Bool} {v15 : Bool} : (Ed.enc (Ed.mk v0 v1 v2 v3 v4 v5 v6 v7 v8 v9 v10 v11 v12 v13 v14 v15))[4]? = some (.int .i64 v4) := rfl
theorem Ed.s4 {v0 : Int} {v1 : Int} {v2 : Int} {v3 : Int} {v4 : Int} {v5 : Bool} {v6 : Int} {v7 : Value} {v8 : Value} {v9 : Int} {v10 : Int} {v11 : Int} {v12 : Bool} {v13 : Bool} {v14 : Bool} {v15 : Bool} {x : Int} : (Ed.enc (Ed.mk v0 v1 v2 v3 v4 v5 v6 v7 v8 v9 v10 v11 v12 v13 v14 v15)).setIfInBounds 4 (.int .i64 x) = Ed.enc (Ed.mk v0 v1 v2 v3 x v5 v6 v7 v8 v9 v10 v11 v12 v13 v14 v15) := rfl
theorem Ed.g5 {v0 : Int} {v1 : Int} {v2 : Int} {v3 : Int} {v4 : Int} {v5 : Bool} {v6 : Int} {v7 : Value} {v8 : Value} {v9 : Int} {v10 : Int} {v11 : Int} {v12 : Bool} {v13 : Bool} {v14 : Bool} {v15 : Bool} : (Ed.enc (Ed.mk v0 v1 v2 v3 v4 v5 v6 v7 v8 v9 v10 v11 v12 v13 v14 v15))[5]? = some (.bool v5) := rfl
theorem Ed.s5 {v0 : Int} {v1 : Int} {v2 : Int} {v3 : Int} {v4 : Int} {v5 : Bool} {v6 : Int} {v7 : Value} {v8 : Value} {v9 : Int} {v10 : Int} {v11 : Int} {v12 : Bool} {v13 : Bool} {v14 : Bool} {v15 : Bool} {x : Bool} : (Ed.enc (Ed.mk v0 v1 v2 v3 v4 v5 v6 v7 v8 v9 v10 v11 v12 v13 v14 v15)).setIfInBounds 5 (.bool x) = Ed.enc (Ed.mk v0 v1 v2 v3 v4 x v6 v7 v8 v9 v10 v11 v12 v13 v14 v15) := rfl
theorem Ed.g6 {v0 : Int} {v1 : Int} {v2 : Int} {v3 : Int} {v4 : Int} {v5 : Bool} {v6 : Int} {v7 : Value} {v8 : Value} {v9 : Int} {v10 : Int} {v11 : Int} {v12 : Bool} {v13 : Bool} {v14 : Bool} {v15 : Bool} : (Ed.enc (Ed.mk v0 v1 v2 v3 v4 v5 v6 v7 v8 v9 v10 v11 v12 v13 v14 v15))[6]? = some (.int .i64 v6) := rfl
theorem Ed.s6 {v0 : Int} {v1 : Int} {v2 : Int} {v3 : Int} {v4 : Int} {v5 : Bool} {v6 : Int} {v7 : Value} {v8 : Value} {v9 : Int} {v10 : Int} {v11 : Int} {v12 : Bool} {v13 : Bool} {v14 : Bool} {v15 : Bool} {x : Int} : (Ed.enc (Ed.mk v0 v1 v2 v3 v4 v5 v6 v7 v8 v9 v10 v11 v12 v13 v14 v15)).setIfInBounds 6 (.int .i64 x) = Ed.enc (Ed.mk v0 v1 v2 v3 v4 v5 x v7 v8 v9 v10 v11 v12 v13 v14 v15) := rfl
theorem Ed.g7 {v0 : Int} {v1 : Int} {v2 : Int} {v3 : Int} {v4 : Int} {v5 : Bool} {v6 : Int} {v7 : Value} {v8 : Value} {v9 : Int} {v10 : Int} {v11 : Int} {v12 : Bool} {v13 : Bool} {v14 : Bool} {v15 : Bool} : (Ed.enc (Ed.mk v0 v1 v2 v3 v4 v5 v6 v7 v8 v9 v10 v11 v12 v13 v14 v15))[7]? = some v7 := rfl
theorem Ed.s7 {v0 : Int} {v1 : Int} {v2 : Int} {v3 : Int} {v4 : Int} {v5 : Bool} {v6 : Int} {v7 : Value} {v8 : Value} {v9 : Int} {v10 : Int} {v11 : Int} {v12 : Bool} {v13 : Bool} {v14 : Bool} {v15 : Bool} {x : Value} : (Ed.enc (Ed.mk v0 v1 v2 v3 v4 v5 v6 v7 v8 v9 v10 v11 v12 v13 v14 v15)).setIfInBounds 7 x = Ed.enc (Ed.mk v0 v1 v2 v3 v4 v5 v6 x v8 v9 v10 v11 v12 v13 v14 v15) := rfl
theorem Ed.g8 {v0 : Int} {v1 : Int} {v2 : Int} {v3 : Int} {v4 : Int} {v5 : Bool} {v6 : Int} {v7 : Value} {v8 : Value} {v9 : Int} {v10 : Int} {v11 : Int} {v12 : Bool} {v13 : Bool} {v14 : Bool} {v15 : Bool} : (Ed.enc (Ed.mk v0 v1 v2 v3 v4 v5 v6 v7 v8 v9 v10 v11 v12 v13 v14 v15))[8]? = some v8 := rfl
theorem Ed.s8 {v0 : Int} {v1 : Int} {v2 : Int} {v3 : Int} {v4 : Int} {v5 : Bool} {v6 : Int} {v7 : Value} {v8 : Value} {v9 : Int} {v10 : Int} {v11 : Int} {v12 : Bool} {v13 : Bool} {v14 : Bool} {v15 : Bool} {x : Value} : (Ed.enc (Ed.mk v0 v1 v2 v3 v4 v5 v6 v7 v8 v9 v10 v11 v12 v13 v14 v15)).setIfInBounds 8 x = Ed.enc (Ed.mk v0 v1 v2 v3 v4 v5 v6 v7 x v9 v10 v11 v12 v13 v14 v15) := rfl
theorem Ed.g9 {v0 : Int} {v1 : Int} {v2 : Int} {v3 : Int} {v4 : Int} {v5 : Bool} {v6 : Int} {v7 : Value} {v8 : Value} {v9 : Int} {v10 : Int} {v11 : Int} {v12 : Bool} {v13 : Bool} {v14 : Bool} {v15 : Bool} : (Ed.enc (Ed.mk v0 v1 v2 v3 v4 v5 v6 v7 v8 v9 v10 v11 v12 v13 v14 v15))[9]? = some (.int .i64 v9) := rfl
theorem Ed.s9 {v0 : Int} {v1 : Int} {v2 : Int} {v3 : Int} {v4 : Int} {v5 : Bool} {v6 : Int} {v7 : Value} {v8 : Value} {v9 : Int} {v10 : Int} {v11 : Int} {v12 : Bool} {v13 : Bool} {v14 : Bool} {v15 : Bool} {x : Int} : (Ed.enc (Ed.mk v0 v1 v2 v3 v4 v5 v6 v7 v8 v9 v10 v11 v12 v13 v14 v15)).setIfInBounds 9 (.int .i64 x) = Ed.enc (Ed.mk v0 v1 v2 v3 v4 v5 v6 v7 v8 x v10 v11 v12 v13 v14 v15) := rfl
theorem Ed.g10 {v0 : Int} {v1 : Int} {v2 : Int} {v3 : Int} {v4 : Int} {v5 : Bool} {v6 : Int} {v7 : Value} {v8 : Value} {v9 : Int} {v10 : Int} {v11 : Int} {v12 : Bool} {v13 : Bool} {v14 : Bool} {v15 : Bool} : (Ed.enc (Ed.mk v0 v1 v2 v3 v4 v5 v6 v7 v8 v9 v10 v11 v12 v13 v14 v15))[10]? = some (.int .i64 v10) := rfl
theorem Ed.s10 {v0 : Int} {v1 : Int} {v2 : Int} {v3 : Int} {v4 : Int} {v5 : Bool} {v6 : Int} {v7 : Value} {v8 : Value} {v9 : Int} {v10 : Int} {v11 : Int} {v12 : Bool} {v13 : Bool} {v14 : Bool} {v15 : Bool} {x : Int} : (Ed.enc (Ed.mk v0 v1 v2 v3 v4 v5 v6 v7 v8 v9 v10 v11 v12 v13 v14 v15)).setIfInBounds 10 (.int .i64 x) = Ed.enc (Ed.mk v0 v1 v2 v3 v4 v5 v6 v7 v8 v9 x v11 v12 v13 v14 v15) := rfl
theorem Ed.g11 {v0 : Int} {v1 : Int} {v2 : Int} {v3 : Int} {v4 : Int} {v5 : Bool} {v6 : Int} {v7 : Value} {v8 : Value} {v9 : Int} {v10 : Int} {v11 : Int} {v12 : Bool} {v13 : Bool} {v14 : Bool} {v15 : Bool} : (Ed.enc (Ed.mk v0 v1 v2 v3 v4 v5 v6 v7 v8 v9 v10 v11 v12 v13 v14 v15))[11]? = some (.int .i64 v11) := rfl
theorem Ed.s11 {v0 : Int} {v1 : Int} {v2 : Int} {v3 : Int} {v4 : Int} {v5 : Bool} {v6 : Int} {v7 : Value} {v8 : Value} {v9 : Int} {v10 : Int} {v11 : Int} {v12 : Bool} {v13 : Bool} {v14 : Bool} {v15 : Bool} {x : Int} : (Ed.enc (Ed.mk v0 v1 v2 v3 v4 v5 v6 v7 v8 v9 v10 v11 v12 v13 v14 v15)).setIfInBounds 11 (.int .i64 x) = Ed.enc (Ed.mk v0 v1 v2 v3 v4 v5 v6 v7 v8 v9 v10 x v12 v13 v14 v15) := rfl
theorem Ed.g12 {v0 : Int} {v1 : Int} {v2 : Int} {v3 : Int} {v4 : Int} {v5 : Bool} {v6 : Int} {v7 : Value} {v8 : Value} {v9 : Int} {v10 : Int} {v11 : Int} {v12 : Bool} {v13 : Bool} {v14 : Bool} {v15 : Bool} : (Ed.enc (Ed.mk v0 v1 v2 v3 v4 v5 v6 v7 v8 v9 v10 v11 v12 v13 v14 v15))[12]? = some (.bool v12) := rfl
theorem Ed.s12 {v0 : Int} {v1 : Int} {v2 : Int} {v3 : Int} {v4 : Int} {v5 : Bool} {v6 : Int} {v7 : Value} {v8 : Value} {v9 : Int} {v10 : Int} {v11 : Int} {v12 : Bool} {v13 : Bool} {v14 : Bool} {v15 : Bool} {x : Bool} : (Ed.enc (Ed.mk v0 v1 v2 v3 v4 v5 v6 v7 v8 v9 v10 v11 v12 v13 v14 v15)).setIfInBounds 12 (.bool x) = Ed.enc (Ed.mk v0 v1 v2 v3 v4 v5 v6 v7 v8 v9 v10 v11 x v13 v14 v15) := rfl
theorem Ed.g13 {v0 : Int} {v1 : Int} {v2 : Int} {v3 : Int} {v4 : Int} {v5 : Bool} {v6 : Int} {v7 : Value} {v8 : Value} {v9 : Int} {v10 : Int} {v11 : Int} {v12 : Bool} {v13 : Bool} {v14 : Bool} {v15 : Bool} : (Ed.enc (Ed.mk v0 v1 v2 v3 v4 v5 v6 v7 v8 v9 v10 v11 v12 v13 v14 v15))[13]? = some (.bool v13) := rfl
theorem Ed.s13 {v0 : Int} {v1 : Int} {v2 : Int} {v3 : Int} {v4 : Int} {v5 : Bool} {v6 : Int} {v7 : Value} {v8 : Value} {v9 : Int} {v10 : Int} {v11 : Int} {v12 : Bool} {v13 : Bool} {v14 : Bool} {v15 : Bool} {x : Bool} : (Ed.enc (Ed.mk v0 v1 v2 v3 v4 v5 v6 v7 v8 v9 v10 v11 v12 v13 v14 v15)).setIfInBounds 13 (.bool x) = Ed.enc (Ed.mk v0 v1 v2 v3 v4 v5 v6 v7 v8 v9 v10 v11 v12 x v14 v15) := rfl
theorem Ed.g14 {v0 : Int} {v1 : Int} {v2 : Int} {v3 : Int} {v4 : Int} {v5 : Bool} {v6 : Int} {v7 : Value} {v8 : Value} {v9 : Int} {v10 : Int} {v11 : Int} {v12 : Bool} {v13 : Bool} {v14 : Bool} {v15 : Bool} : (Ed.enc (Ed.mk v0 v1 v2 v3 v4 v5 v6 v7 v8 v9 v10 v11 v12 v13 v14 v15))[14]? = some (.bool v14) := rfl
theorem Ed.s14 {v0 : Int} {v1 : Int} {v2 : Int} {v3 : Int} {v4 : Int} {v5 : Bool} {v6 : Int} {v7 : Value} {v8 : Value} {v9 : Int} {v10 : Int} {v11 : Int} {v12 : Bool} {v13 : Bool} {v14 : Bool} {v15 : Bool} {x : Bool} : (Ed.enc (Ed.mk v0 v1 v2 v3 v4 v5 v6 v7 v8 v9 v10 v11 v12 v13 v14 v15)).setIfInBounds 14 (.bool x) = Ed.enc (Ed.mk v0 v1 v2 v3 v4 v5 v6 v7 v8 v9 v10 v11 v12 v13 x v15) := rfl
theorem Ed.g15 {v0 : Int} {v1 : Int} {v2 : Int} {v3 : Int} {v4 : Int} {v5 : Bool} {v6 : Int} {v7 : Value} {v8 : Value} {v9 : Int} {v10 : Int} {v11 : Int} {v12 : Bool} {v13 : Bool} {v14 : Bool} {v15 : Bool} : (Ed.enc (Ed.mk v0 v1 v2 v3 v4 v5 v6 v7 v8 v9 v10 v11 v12 v13 v14 v15))[15]? = some (.bool v15) := rfl
theorem Ed.s15 {v0 : Int} {v1 : Int} {v2 : Int} {v3 : Int} {v4 : Int} {v5 : Bool} {v6 : Int} {v7 : Value} {v8 : Value} {v9 : Int} {v10 : Int} {v11 : Int} {v12 : Bool} {v13 : Bool} {v14 : Bool} {v15 : Bool} {x : Bool} : (Ed.enc (Ed.mk v0 v1 v2 v3 v4 v5 v6 v7 v8 v9 v10 v11 v12 v13 v14 v15)).setIfInBounds 15 (.bool x) = Ed.enc (Ed.mk v0 v1 v2 v3 v4 v5 v6 v7 v8 v9 v10 v11 v12 v13 v14 x) := rfl
theorem Ed.size {s : Ed} : s.enc.size = 16 := rfl
def Ed.zero : Ed := { host := 0, sd := 0, lPort := 0, rHost := 0, rPort := 0, client := false, peer := 0, sent := (.slice none 0 0), rcvd := (.slice none 0 0), offered := 0, state := 0, why := 0, closed := false, peerFin := false, wasOpen := false, gone := false }

structure Opn where
  kind : Int
  a : Int
  b : Int
  c : Int
  s : ByteArray
  t : ByteArray
def Opn.enc (s : Opn) : Array Value := #[.int .i64 s.kind, .int .i64 s.a, .int .i64 s.b, .int .i64 s.c, .string s.s, .string s.t]
theorem Opn.g0 {v0 : Int} {v1 : Int} {v2 : Int} {v3 : Int} {v4 : ByteArray} {v5 : ByteArray} : (Opn.enc (Opn.mk v0 v1 v2 v3 v4 v5))[0]? = some (.int .i64 v0) := rfl
theorem Opn.s0 {v0 : Int} {v1 : Int} {v2 : Int} {v3 : Int} {v4 : ByteArray} {v5 : ByteArray} {x : Int} : (Opn.enc (Opn.mk v0 v1 v2 v3 v4 v5)).setIfInBounds 0 (.int .i64 x) = Opn.enc (Opn.mk x v1 v2 v3 v4 v5) := rfl
theorem Opn.g1 {v0 : Int} {v1 : Int} {v2 : Int} {v3 : Int} {v4 : ByteArray} {v5 : ByteArray} : (Opn.enc (Opn.mk v0 v1 v2 v3 v4 v5))[1]? = some (.int .i64 v1) := rfl
theorem Opn.s1 {v0 : Int} {v1 : Int} {v2 : Int} {v3 : Int} {v4 : ByteArray} {v5 : ByteArray} {x : Int} : (Opn.enc (Opn.mk v0 v1 v2 v3 v4 v5)).setIfInBounds 1 (.int .i64 x) = Opn.enc (Opn.mk v0 x v2 v3 v4 v5) := rfl
theorem Opn.g2 {v0 : Int} {v1 : Int} {v2 : Int} {v3 : Int} {v4 : ByteArray} {v5 : ByteArray} : (Opn.enc (Opn.mk v0 v1 v2 v3 v4 v5))[2]? = some (.int .i64 v2) := rfl
theorem Opn.s2 {v0 : Int} {v1 : Int} {v2 : Int} {v3 : Int} {v4 : ByteArray} {v5 : ByteArray} {x : Int} : (Opn.enc (Opn.mk v0 v1 v2 v3 v4 v5)).setIfInBounds 2 (.int .i64 x) = Opn.enc (Opn.mk v0 v1 x v3 v4 v5) := rfl
theorem Opn.g3 {v0 : Int} {v1 : Int} {v2 : Int} {v3 : Int} {v4 : ByteArray} {v5 : ByteArray} : (Opn.enc (Opn.mk v0 v1 v2 v3 v4 v5))[3]? = some (.int .i64 v3) := rfl
theorem Opn.s3 {v0 : Int} {v1 : Int} {v2 : Int} {v3 : Int} {v4 : ByteArray} {v5 : ByteArray} {x : Int} : (Opn.enc (Opn.mk v0 v1 v2 v3 v4 v5)).setIfInBounds 3 (.int .i64 x) = Opn.enc (Opn.mk v0 v1 v2 x v4 v5) := rfl
theorem Opn.g4 {v0 : Int} {v1 : Int} {v2 : Int} {v3 : Int} {v4 : ByteArray} {v5 : ByteArray} : (Opn.enc (Opn.mk v0 v1 v2 v3 v4 v5))[4]? = some (.string v4) := rfl
theorem Opn.s4 {v0 : Int} {v1 : Int} {v2 : Int} {v3 : Int} {v4 : ByteArray} {v5 : ByteArray} {x : ByteArray} : (Opn.enc (Opn.mk v0 v1 v2 v3 v4 v5)).setIfInBounds 4 (.string x) = Opn.enc (Opn.mk v0 v1 v2 v3 x v5) := rfl
theorem Opn.g5 {v0 : Int} {v1 : Int} {v2 : Int} {v3 : Int} {v4 : ByteArray} {v5 : ByteArray} : (Opn.enc (Opn.mk v0 v1 v2 v3 v4 v5))[5]? = some (.string v5) := rfl
theorem Opn.s5 {v0 : Int} {v1 : Int} {v2 : Int} {v3 : Int} {v4 : ByteArray} {v5 : ByteArray} {x : ByteArray} : (Opn.enc (Opn.mk v0 v1 v2 v3 v4 v5)).setIfInBounds 5 (.string x) = Opn.enc (Opn.mk v0 v1 v2 v3 v4 x) := rfl
theorem Opn.size {s : Opn} : s.enc.size = 6 := rfl
def Opn.zero : Opn := { kind := 0, a := 0, b := 0, c := 0, s := ByteArray.empty, t := ByteArray.empty }

end Go.Proofs.Qxb6500351aGreat
