/- THE PLAIN FUNCTIONS of the law's walk: the world, and a look at it. -/
import Derived.Test.Qxb6500351aGreatPl41
set_option linter.unusedVariables false
set_option linter.unusedSimpArgs false
namespace Go.Proofs.Qxb6500351aGreat
open Go.Eng
structure Wrld where
  H : Nat → Hst
  wr : List Flt
  N : List Ned
  dl : Nat → Int
  top : Nat → Int
  seen : Nat → List Int
  lost : Nat → Int
  out : Nat → Int
  ticks : Int
  flood : Bool
  spilt : Int
  ready : List Wt
def wAt (c sd : Int) (r : Wt) : Bool := decide (r.host = c) && decide (r.sd = sd)
/-- the place in the accept order, or -1 -/
def waitsI (r : List Wt) (c sd : Int) : Int := match r.findIdx? (wAt c sd) with
  | some i => (i : Int)
  | none => -1
theorem waitsI_neg {r : List Wt} {c sd : Int} : waitsI r c sd < 0 ↔ ∀ x, x ∈ r → ¬ (x.host = c ∧ x.sd = sd) := by
  unfold waitsI
  cases h : r.findIdx? (wAt c sd) with
  | none =>
    dsimp only
    rw [List.findIdx?_eq_none_iff] at h
    constructor
    · intro _ x hx ⟨a, b⟩
      have := h x hx
      unfold wAt at this
      simp [a, b] at this
    · intro _; omega
  | some i =>
    dsimp only
    rw [List.findIdx?_eq_some_iff_getElem] at h
    obtain ⟨hi, h1, _⟩ := h
    constructor
    · intro k; omega
    · intro k
      exfalso
      unfold wAt at h1
      rw [Bool.and_eq_true, decide_eq_true_eq, decide_eq_true_eq] at h1
      exact k _ (List.getElem_mem hi) h1
/-- a child that became ready joins the order -/
def rdyStep (c : Int) (H : Hst) (r : List Wt) (sd : Int) : List Wt :=
  if (H.ent sd).kind = 2 ∧ (H.ent sd).parent ≠ 0 ∧ (H.ent sd).ready = true ∧ waitsI r c sd < 0 then r ++ [⟨c, sd, (H.ent sd).parent⟩] else r
def rdyTo (c : Int) (H : Hst) : List Int → List Wt → List Wt
  | [], r => r
  | sd :: l, r => rdyTo c H l (rdyStep c H r sd)
theorem rdyTo_snoc (c : Int) (H : Hst) : ∀ (l : List Int) (sd : Int) (r : List Wt), rdyTo c H (l ++ [sd]) r = rdyStep c H (rdyTo c H l r) sd
  | [], sd, r => rfl
  | x :: l, sd, r => rdyTo_snoc c H l sd (rdyStep c H r x)
/-- the largest descriptor that was shown -/
def topStep (seen : List Int) (t sd : Int) : Option Int := if sd ∈ seen then some t else if sd ≤ t then none else some sd
def topTo (seen : List Int) : List Int → Int → Option Int
  | [], t => some t
  | sd :: l, t => match topStep seen t sd with
    | some t' => topTo seen l t'
    | none => none
def keepW (H : Nat → Hst) (r : Wt) : Bool := decide ((H r.host.toNat).err r.sd = 0) && ((H r.host.toNat).ent r.sd).ready && decide (((H r.host.toNat).ent r.sd).parent = r.parent)
/-- a look at host c -/
structure LookC (x : Wrld) (c : Nat) (y : Wrld) : Prop where
  chk : (x.H c).ChkOk
  clk : (x.H c).clock = x.ticks
  lost : x.lost c ≤ (x.H c).lost ∧ (x.lost c < (x.H c).lost → x.out c = 24)
  srt : (x.H c).t.list.Pairwise (· < ·) ∧ ∀ sd, sd ∈ (x.H c).t.list → 1 ≤ sd
  ent : ∀ sd, sd ∈ (x.H c).t.list → (x.H c).err sd = 0 ∧ ((x.H c).ent sd).sd = sd ∧ (((x.H c).ent sd).kind = 1 ∨ (((x.H c).ent sd).kind = 2 ∧ 0 ≤ ((x.H c).ent sd).slot ∧ ((x.H c).ent sd).slot < 4))
  res : ∃ l1 l2 t', topTo (x.seen c) (x.H c).t.list (x.top c) = some t' ∧ LookN x.dl (x.H c) c x.N l1 l2 ∧ y = { x with lost := upA x.lost c (x.H c).lost, top := upA x.top c t', seen := upA x.seen c (x.H c).t.list, N := l2, ready := rdyTo c (x.H c) (x.H c).t.list x.ready }
def Wrld.sweep (x : Wrld) : Wrld := { x with ready := x.ready.filter (keepW x.H) }
/-- A LOOK -/
structure Look (x y : Wrld) : Prop where
  flood : x.flood = false
  hosts : ∃ x1 x2 x3, LookC x 0 x1 ∧ LookC x1 1 x2 ∧ LookC x2 2 x3 ∧ y = x3.sweep
end Go.Proofs.Qxb6500351aGreat
