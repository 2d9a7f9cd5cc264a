/- Fair weather, for the walk of a step. -/
import Derived.Test.Qxb6500351aGreatMd36
import Derived.Test.Qxb6500351aGreatRp13
set_option linter.unusedVariables false
set_option linter.unusedSimpArgs false
namespace Go.Proofs.Qxb6500351aGreat
open Go.Eng
def NextF (P : Prop) (x y : Wrld) (k : Nat) : Prop := NextZ y fun z => LF (P ∧ Same x z) z (k + 1)
/-- does the step end the fair weather -/
def foulC (x : Wrld) (oa ob oc : Int) : Bool := if oa - 1 < 0 ∨ 3 ≤ oa - 1 ∨ oa - 1 = oc then true else if x.listensB (oa - 1).toNat ob = true then !(nAllGone x.N) else true
def foulE (x : Wrld) (oa oc : Int) : Bool := !((x.H oc.toNat).oursB oa) || decide (((x.H oc.toNat).infoC oa).state ≠ 3)
def foulB (x : Wrld) (kd oa ob oc : Int) : Bool := if kd = 11 ∨ kd = 12 ∨ kd = 13 ∨ kd = 14 then true else if oc < 0 ∨ 3 ≤ oc then false else if kd = 7 then true else if kd = 6 then foulE x oa oc else if kd = 2 then foulC x oa ob oc else false
section
variable {P : Prop} {x y z : Wrld} {k : Nat}
theorem LF.off {X : Prop} (h : LawK x k) (np : P → False) : LF (P ∧ X) x k := by obtain ⟨w, L, A⟩ := h; exact ⟨w, L, A, fun h => (np h.1).elim⟩
theorem LF.mono (h : LF P x k) {k' : Nat} (e : k ≤ k') : LF P x k' := by obtain ⟨w, L, A, F⟩ := h; exact ⟨w, L, A.mono (by omega), F⟩
theorem LF.szs (h : LF P x k) (hk : k ≤ 11000000000) : Szs x := h.law.szs hk
theorem LF.hb (h : LF P x k) (hk : k ≤ 11000000000) : HBnd x := h.law.hb hk
theorem LF.kids (h : LF P x k) {c : Nat} (c3 : c < 3) (j : Nat) : -998 ≤ ((x.H c).t.rows j).kids := h.law.kids c3 j
theorem LF.chk (h : LF P x k) {c : Nat} (c3 : c < 3) : (x.H c).ChkOk ∧ (x.H c).clock = x.ticks := h.law.chk c3
theorem LF.here (h : LF P x k) : LF (P ∧ Same x x) x k := h.imp And.left
theorem LF.listen (h : LF P x k) (hk : k ≤ 10900000000) {c : Nat} (c3 : c < 3) (p : Int) :
    ((x.H c).t.listen p).2.1 = x.lisW c p ∧ (¬ ((x.H c).t.listen p).2.1 = 0 → ((x.H c).t.listen p).1 = 0) ∧
    (((x.H c).t.listen p).2.1 = 0 → x.top c < ((x.H c).t.listen p).1 ∧ ((upA x.H c { (x.H c) with t := ((x.H c).t.listen p).2.2 }) c).err ((x.H c).t.listen p).1 = 0 ∧ (((upA x.H c { (x.H c) with t := ((x.H c).t.listen p).2.2 }) c).ent ((x.H c).t.listen p).1).kind = 1 ∧ (((upA x.H c { (x.H c) with t := ((x.H c).t.listen p).2.2 }) c).ent ((x.H c).t.listen p).1).lPort = p) ∧
    NextF P x { x with H := upA x.H c { (x.H c) with t := ((x.H c).t.listen p).2.2 } } k := by
  obtain ⟨w, L, A, Z⟩ := h.callP
  exact A.listenZ hk c3 p Z
theorem LF.accept (h : LF P x k) (hk : k ≤ 10900000000) {c : Nat} (c3 : c < 3) (p : Int) :
    ((x.H c).t.accept p).2.1 = (x.accW c p).1 ∧ ((x.H c).t.accept p).1 = (x.accW c p).2 ∧ (∀ r, r ∈ x.ready → r.sd ≠ 0) ∧ NextF P x { x with H := upA x.H c { (x.H c) with t := ((x.H c).t.accept p).2.2 } } k := by
  obtain ⟨w, L, A, Z⟩ := h.callP
  exact A.acceptZ hk c3 p Z
theorem LF.send (h : LF P x k) (hk : k ≤ 10900000000) {c : Nat} (c3 : c < 3) (sd : Int) {d : List Int} (hd : Bytes d) :
    ((x.H c).oursB sd = true → 0 ≤ ((x.H c).ent sd).slot ∧ ((x.H c).ent sd).slot < 4) ∧ (x.H c).sendE sd d = (x.sendW c sd d.length).2 ∧ (x.H c).sndN sd d = (x.sendW c sd d.length).1 ∧ ((x.H c).sendE sd d = 0 → nTook x.N (nFind x.N c sd) ((x.H c).sndN sd d) d = true) ∧ ((x.H c).sndF sd d).length ≤ 24 ∧ (x.H c).sndN sd d ≤ 1000 ∧ (¬ (x.H c).sendE sd d = 0 → NextF P x x k) ∧
    ((x.H c).sendE sd d = 0 → NextF P x (({ x with H := upA x.H c ((x.H c).sndH sd d), N := nTaken x.N (nFind x.N c sd) ((x.H c).sndN sd d) d } : Wrld).put c ((x.H c).sndF sd d)) k) := by
  obtain ⟨w, L, A, Z⟩ := h.callP
  exact A.sendZ hk c3 sd hd Z
theorem LF.recv (h : LF P x k) (hk : k ≤ 10900000000) {c : Nat} (c3 : c < 3) (sd mx : Int) :
    ((x.H c).oursB sd = true → ((x.H c).cn sd).x.st = 4 → ((x.H c).cn sd).x.why = 0 → ((x.H c).cn sd).x.peerFin = true) ∧ ((x.H c).oursB sd = true → 0 ≤ ((x.H c).ent sd).slot ∧ ((x.H c).ent sd).slot < 4) ∧ (Bytes ((x.H c).rcvB sd mx) ∧ ((x.H c).rcvB sd mx).length ≤ 1000) ∧ (x.H c).recvE sd mx = (x.recvW c sd mx).2 ∧ (((x.H c).rcvB sd mx).length : Int) = (x.recvW c sd mx).1 ∧
    ((x.H c).recvE sd mx = 16 → nEOF x.N (nFind x.N c sd) = true) ∧ ((x.H c).recvE sd mx = 0 → nReadB x.N (nFind x.N c sd) ((x.H c).rcvB sd mx) = true) ∧ ((x.H c).rcvF sd mx).length ≤ 24 ∧ (¬ (x.H c).recvE sd mx = 0 → NextF P x x k) ∧
    ((x.H c).recvE sd mx = 0 → NextF P x (({ x with H := upA x.H c ((x.H c).rcvH sd mx), N := nReadL x.N (nFind x.N c sd) ((x.H c).rcvB sd mx) } : Wrld).put c ((x.H c).rcvF sd mx)) k) := by
  obtain ⟨w, L, A, Z⟩ := h.callP
  exact A.recvZ hk c3 sd mx Z
theorem LF.connect (h : LF P x k) (hk : k ≤ 10900000000) {c : Nat} (c3 : c < 3) (rh rp : Int) (hf : P → foulC x rh rp (c : Int) = false) :
    (((x.H c).t.connect rh rp).2.1 = 0 → (((x.H c).t.connect rh rp).2.2.get ((x.H c).t.connect rh rp).1).2 = 0 ∧ (0 ≤ ((x.H c).conEn rh rp).slot ∧ ((x.H c).conEn rh rp).slot < 4) ∧ ((x.H c).c ((x.H c).conEn rh rp).slot.toNat).x.st = 0) ∧
    ((x.H c).t.connect rh rp).2.1 = x.conW c rh rp ∧ (¬ ((x.H c).t.connect rh rp).2.1 = 0 → (x.H c).conS rh rp = 0) ∧ (¬ ((x.H c).t.connect rh rp).2.1 = 0 → (x.H c).conH rh rp = x.H c) ∧
    (((x.H c).t.connect rh rp).2.1 = 0 → ConW x c rh rp ((x.H c).conS rh rp) ((upA x.H c ((x.H c).conH rh rp)) c)) ∧ ((x.H c).conF rh rp).length ≤ 24 ∧ (¬ ((x.H c).t.connect rh rp).2.1 = 0 → NextF P x x k) ∧
    (((x.H c).t.connect rh rp).2.1 = 0 → NextF P x (({ x with H := upA x.H c ((x.H c).conH rh rp), N := nConn x.N c (((upA x.H c ((x.H c).conH rh rp)) c).ent ((x.H c).conS rh rp)) (((upA x.H c ((x.H c).conH rh rp)) c).infoC ((x.H c).conS rh rp)) } : Wrld).put c ((x.H c).conF rh rp)) k) ∧
    ∀ i, i < 3 → ((upA x.H c ((x.H c).conH rh rp)) i).Ok ∧ InfoOk ((upA x.H c ((x.H c).conH rh rp)) i) := by
  obtain ⟨w, L, A, F⟩ := h
  refine A.connectZ hk c3 rh rp (fun w' L3 z A3 C E => ⟨w', L3, A3, fun ⟨p, s, _⟩ => (F p).call A A3 C E s⟩) (fun w' L3 z A3 C B => ⟨w', L3, A3, fun ⟨p, s1, s2⟩ => ?_⟩)
  have f := hf p
  unfold foulC at f
  by_cases h1 : rh - 1 < 0 ∨ 3 ≤ rh - 1 ∨ rh - 1 = (c : Int)
  · rw [if_pos h1] at f; cases f
  rw [if_neg h1] at f
  by_cases h2 : x.listensB (rh - 1).toNat rp = true
  · rw [if_pos h2] at f
    have hg : nAllGone x.N = true := by revert f; cases nAllGone x.N <;> simp
    have h3 : (rh - 1).toNat < 3 := by omega
    refine (F p).connect A A3 C B s1 s2 (fun j hj => ?_) h3 (by omega) (by omega) ((A.listens h3 rp).1 h2)
    rw [A.N] at hg
    unfold nAllGone at hg
    rw [List.all_eq_true] at hg
    exact hg (L j) (List.mem_map.2 ⟨j, List.mem_range.2 hj, rfl⟩)
  · rw [if_neg h2] at f; cases f
end
section
variable {A : WA} {q : Bool} {x : Wrld} {V : WV} {m k : Nat} {gh gq gw gn gs gr gi go gm : List Chunk} {P : Prop}
theorem t49cF (W : WG A q x V m gh gq gw gn gs gr gi go gm) (hm : m ≤ 2700000000000) (h : LF P x k) (hk : k ≤ 10900000000) (c : Nat) (c3 : c < 3) (sd : Int) (hf : P → foulE x sd (c : Int) = false) :
    Trip Tryz.prog 49 #[.pointer (some ⟨A.b, 0, none⟩), .int .i64 (c : Int), .int .i64 sd, .bool false] [[(A.b, .cells (A.wd q x V).enc 53 (0, 0))], gh, gq, gw, gn, gs, gr, gi, go, gm] (fun u S' => u = .bool true ∧ ∃ y, NextF P x y k ∧ WPost A q y V.cm (m + 60) S') := by
  obtain ⟨w, L, B, F⟩ := h
  refine t49cZ W hm B hk c c3 sd (fun w' L3 z A3 C E => ⟨w', L3, A3, fun ⟨p, s, _⟩ => (F p).call B A3 C E s⟩) (fun w' L3 z A3 C E hl => ⟨w', L3, A3, fun ⟨p, s, _⟩ => ?_⟩) (fun w' L3 z A3 hl => ⟨w', L3, A3, fun ⟨p, _⟩ => ?_⟩)
  · have f := hf p
    unfold foulE at f
    rw [Int.toNat_natCast] at f
    simp only [Bool.or_eq_false_iff, Bool.not_eq_false', decide_eq_false_iff_not, Decidable.not_not] at f
    obtain ⟨f1, f2⟩ := f
    have ho := f1
    rw [B.H c c3] at ho
    obtain ⟨i, e, O⟩ := B.ours c3 ho
    rw [B.H c c3, O.info] at f2
    exact (F p).call B A3 C (E f1 (by rw [B.H c c3]; exact f2)) s
  · exfalso
    have f := hf p
    unfold foulE at f
    rw [Int.toNat_natCast, lis_ours hl] at f
    simp at f
theorem t49aF (W : WG A q x V m gh gq gw gn gs gr gi go gm) (hm : m ≤ 2700000000000) (h : LF P x k) (hk : k ≤ 10900000000) (c : Nat) (c3 : c < 3) (sd : Int) (np : P → False) :
    Trip Tryz.prog 49 #[.pointer (some ⟨A.b, 0, none⟩), .int .i64 (c : Int), .int .i64 sd, .bool true] [[(A.b, .cells (A.wd q x V).enc 53 (0, 0))], gh, gq, gw, gn, gs, gr, gi, go, gm] (fun u S' => u = .bool true ∧ ∃ y, NextF P x y k ∧ WPost A q y V.cm (m + 60) S') := by
  obtain ⟨w, L, B, F⟩ := h
  exact t49aZ W hm B hk c c3 sd (fun w' L3 z A3 _ _ => ⟨w', L3, A3, fun h => (np h.1).elim⟩) (fun w' L3 z A3 => ⟨w', L3, A3, fun h => (np h.1).elim⟩)
end
end Go.Proofs.Qxb6500351aGreat
