/- What the law sees of one row: See. MADE BY PROGRAM (tools/mkrp5.py). -/
import Derived.Test.Qxb6500351aGreatW59
set_option linter.unusedVariables false
set_option linter.unusedSimpArgs false
namespace Go.Proofs.Qxb6500351aGreat
open Go.Eng
def nOpenTo (l : List Ned) (del : Nat → Int) (h : Int) (i : Int) (x : Ned) (st : Int) : Option Int :=
  if x.state ≠ 3 ∧ st = 3 then
    if del h.toNat = 0 then none
    else if x.client = true then
      (if nLatest l (x.rHost - 1) x.rPort (h + 1) x.lPort false < 0 ∨ nPeer l (nLatest l (x.rHost - 1) x.rPort (h + 1) x.lPort false) ≠ i then none
       else some (nLatest l (x.rHost - 1) x.rPort (h + 1) x.lPort false))
    else if nPeer l x.peer ≠ i then none else some x.peer
  else some x.peer
def Ned.seen (x : Ned) (pe : Int) (ci : Ci) : Ned := { x with peer := pe, state := ci.state, why := ci.why, wasOpen := x.wasOpen || decide (ci.state = 3), offered := if x.offered < x.rcvd.length + ci.avail then x.rcvd.length + ci.avail else x.offered }
def nSee (l : List Ned) (del : Nat → Int) (h : Int) (en : En) (ci : Ci) : Option (List Ned) :=
  if h < 0 ∨ 3 ≤ h then none
  else if nFind l h en.sd < 0 then
    if en.rHost - 1 < 0 ∨ 3 ≤ en.rHost - 1 ∨ del h.toNat = 0 ∨ ci.state ≠ 2 ∨ en.parent = 0 ∨ en.ready = true then none
    else if nLatest l (en.rHost - 1) en.rPort (h + 1) en.lPort true < 0 then none
    else some (l ++ [Ned.kid h en (nLatest l (en.rHost - 1) en.rPort (h + 1) en.lPort true)])
  else match l[(nFind l h en.sd).toNat]? with
    | none => none
    | some x =>
      if x.gone = true ∨ mayStep x.state ci.state = false ∨ (x.state = 4 ∧ x.why ≠ ci.why ∧ ¬ (x.why = 0 ∧ ci.why = 20)) then none
      else match nOpenTo l del h (nFind l h en.sd) x ci.state with
        | none => none
        | some pe =>
          if en.parent ≠ 0 ∧ en.ready ≠ (x.seen pe ci).wasOpen then none
          else if 0 < (x.seen pe ci).offered ∧ (pe < 0 ∨ ((nSent (l.set (nFind l h en.sd).toNat (x.seen pe ci)) pe).length : Int) < (x.seen pe ci).offered) then none
          else if ci.peerFin = true ∧ x.peerFin = false then
            if pe < 0 ∨ nClosed (l.set (nFind l h en.sd).toNat (x.seen pe ci)) pe = false ∨ (x.seen pe ci).offered ≠ (nSent (l.set (nFind l h en.sd).toNat (x.seen pe ci)) pe).length then none
            else some (l.set (nFind l h en.sd).toNat { x.seen pe ci with peerFin := true })
          else some (l.set (nFind l h en.sd).toNat (x.seen pe ci))
end Go.Proofs.Qxb6500351aGreat
