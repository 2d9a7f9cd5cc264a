/- The world as a whole; the hosts' calls, told plainly. -/
import Derived.Test.Qxb6500351aGreatMd25
import Derived.Test.Qxb6500351aGreatW76
import Derived.Test.Qxb6500351aGreatW70
import Derived.Test.Qxb6500351aGreatW85
set_option linter.unusedVariables false
set_option linter.unusedSimpArgs false
namespace Go.Proofs.Qxb6500351aGreat
open Go.Eng
structure WG (A : WA) (q : Bool) (x : Wrld) (V : WV) (m : Nat) (gh gq gw gn gs gr gi go gm : List Chunk) : Prop where
  h : HsG x.H A.hv A.bv gh
  q : q = true → HsG x.H A.qv A.qb gq
  w : WrG A.bw x.wr gw
  n : NtG A.bn x.N x.dl gn
  s : SnG x.seen V.seen gs
  r : LstN 76 3 wtR V.ready x.ready gr []
  i : PI m V.ints gi
  o : PO m V.outs go
  m : PM m V.mine gm
def WPost (A : WA) (q : Bool) (x : Wrld) (cm : Int) (m : Nat) (S' : SH) : Prop := ∃ (V : WV) (gh gq gw gn gs gr gi go gm : List Chunk), WG A q x V m gh gq gw gn gs gr gi go gm ∧ V.cm = cm ∧ S' = [[(A.b, .cells (A.wd q x V).enc 53 (0, 0))], gh, gq, gw, gn, gs, gr, gi, go, gm]
theorem WG.mono {A : WA} {q : Bool} {x : Wrld} {V : WV} {m m' : Nat} {gh gq gw gn gs gr gi go gm : List Chunk} (h : WG A q x V m gh gq gw gn gs gr gi go gm) (k : m ≤ m') : WG A q x V m' gh gq gw gn gs gr gi go gm := ⟨h.h, h.q, h.w, h.n, h.s, h.r, h.i.mono k, h.o.mono k, h.m.mono k⟩
theorem ours_err {H : Hst} {sd : Int} (h : H.oursB sd = true) : H.err sd = 0 := by unfold Hst.oursB at h; exact (of_decide_eq_true h).1
theorem info_que {H : Hst} (ok : H.Ok) (sd : Int) : 0 ≤ (H.infoC sd).queued ∧ (H.infoC sd).queued ≤ 1000 := by
  unfold Hst.infoC
  split
  · have h := (ok.c (H.ent sd).slot.toNat).s
    have h1 := h.sent0
    have h2 := h.sentc
    have h3 := h.count
    show 0 ≤ (H.c (H.ent sd).slot.toNat).s.count ∧ (H.c (H.ent sd).slot.toNat).s.count ≤ 1000
    omega
  · exact ⟨by decide, by decide⟩
theorem RwG.slice {v : Value} {l : List Int} {g : List Chunk} (h : RwG v l g) : ∃ p, v = .slice p l.length l.length := by
  obtain ⟨_, _, ⟨rfl, rfl, rfl⟩ | ⟨b, rfl, rfl⟩⟩ := h
  · exact ⟨_, rfl⟩
  · exact ⟨_, rfl⟩
theorem RwG.pos {v : Value} {l : List Int} {g : List Chunk} (h : RwG v l g) (h0 : 0 < l.length) : ∃ b, v = byV b l ∧ g = byG b l 5 := by
  obtain ⟨_, _, ⟨rfl, rfl, rfl⟩ | h⟩ := h
  · exact absurd h0 (by simp)
  · exact h
theorem nReadB_pos {l : List Ned} {i : Int} {d : List Int} (h : nReadB l i d = true) : 0 < d.length := by
  unfold nReadB at h
  simp only [Bool.and_eq_true, decide_eq_true_eq] at h
  omega
theorem nEOF_pos {l : List Ned} {i : Int} (h : nEOF l i = true) : 0 < l.length := by
  unfold nEOF at h
  simp only [Bool.and_eq_true, decide_eq_true_eq] at h
  have := nHas_iff.1 h.1.1.1
  omega
/-- what Connect's walk asks of the new row -/
structure ConW (x : Wrld) (c : Nat) (rh rp sd : Int) (K : Hst) : Prop where
  top : x.top c < sd
  err : K.err sd = 0
  kind : (K.ent sd).kind = 2
  par : (K.ent sd).parent = 0
  hrh : (K.ent sd).rHost = rh
  hrp : (K.ent sd).rPort = rp
  hlp : 8 ≤ (K.ent sd).lPort ∧ (K.ent sd).lPort ≤ 15
  tup : ∀ s, s ∈ x.seen c → ¬ (K.err s = 0 ∧ (K.ent s).kind = 2 ∧ (K.ent s).lPort = (K.ent sd).lPort ∧ (K.ent s).rHost = rh ∧ (K.ent s).rPort = rp)
  can : nCan x.N c (K.ent sd) (K.infoC sd) = true
/-- what a host's state must keep for the walks -/
structure HBnd (x : Wrld) : Prop where
  ok : ∀ i, i < 3 → (x.H i).Ok ∧ InfoOk (x.H i)
  b : ∀ i, i < 3 → (x.H i).lost + 300 ≤ 1152921504606846976 ∧ (x.H i).clock < 1152921504606846976 ∧ (x.H i).t.nextSd < 1152921504606846976
structure DelOk (x : Wrld) (i : Int) (Z : Wrld → Prop) : Prop where
  rest : Z { x with wr := wRest x.wr i }
  inp : ∀ raw d, wTake x.wr i = some raw → d < 3 → (∀ s g, (x.H d).DispOk s g) ∧ ((x.H d).inputF raw).length ≤ 24 ∧ ∃ z, Look (x.input i d raw) z ∧ LkOk (x.input i d raw) ∧ Z z
/-- a tick of the world, host by host -/
structure TickOk (x : Wrld) (X : Nat → Wrld) (z : Wrld) : Prop where
  X0 : X 0 = x.tick0
  Xs : ∀ d, d < 3 → X (d + 1) = (X d).tick1 d
  F : ∀ d, d < 3 → ((X d).H d).Ok ∧ ((X d).H d).lost + 200 ≤ 1152921504606846976 ∧ ((X d).H d).clock < 1152921504606846976 ∧ ((X d).H d).tick0.Ok ∧ ((X d).H d).tick0.tickOk ((X d).H d).t.list ∧ (((X d).H d).tick0.tickF ((X d).H d).t.list).length ≤ 24
  wl : ∀ d, d ≤ 3 → (X d).wr.length ≤ 64
  sp : ∀ d, d ≤ 3 → 0 ≤ (X d).spilt ∧ (X d).spilt ≤ 1000000000000000
  same : ∀ d, d ≤ 3 → (X d).N = x.N ∧ (X d).dl = x.dl ∧ (X d).seen = x.seen ∧ (X d).ready = x.ready
  look : Look (X 3) z
  lk : LkOk (X 3)
section
variable {H : Nat → Hst} {hv : Nat → Value} {bv : Nat → Bl} {g : List Chunk} {c : Nat}
theorem j85 (hh : HsG H hv bv g) (c3 : c < 3) (ok : (H c).Ok) (hlo : (H c).lost + 200 ≤ 1152921504606846976) (hcl : (H c).clock < 1152921504606846976) (h0k : (H c).tick0.Ok) (htk : (H c).tick0.tickOk (H c).t.list) :
    Trip Tryz.prog 85 #[hv c] [g] (fun u S' => ∃ (v : Value) (gv gd g' : List Chunk), u = v ∧ Frs v ((H c).tick0.tickF (H c).t.list) gv gd ∧ HsG (upA H c ((H c).tick0.tickH (H c).t.list)) hv bv g' ∧ S' = [gv, gd, g']) := i85 hh c3 ok hlo hcl h0k htk
theorem j79 (hh : HsG H hv bv g) (c3 : c < 3) (ok : (H c).Ok) (hlo : (H c).lost + 50 ≤ 1152921504606846976) (b : Nat) (l : List Int) (hb : Bytes l) (hl : l.length ≤ 1000) (hD : ∀ s g, (H c).segIn l = some (s, g) → (H c).DispOk s g) :
    Trip Tryz.prog 79 #[hv c, byV b l] [g, byG b l 5] (fun u S' => ∃ (v : Value) (gv gd g' : List Chunk), u = v ∧ Frs v ((H c).inputF l) gv gd ∧ HsG (upA H c ((H c).inputH l)) hv bv g' ∧ S' = [gv, gd, g', byG b l 5]) := i79 hh c3 ok hlo b l hb hl hD
theorem j90 (hh : HsG H hv bv g) (c3 : c < 3) (ok : (H c).Ok) (hlo : (H c).lost + 50 ≤ 1152921504606846976) (h5 : (H c).t.nextSd < 1152921504606846976) (rh rp : Int) (h7 : ((H c).t.connect rh rp).2.1 = 0 → (((H c).t.connect rh rp).2.2.get ((H c).t.connect rh rp).1).2 = 0 ∧ (0 ≤ ((H c).conEn rh rp).slot ∧ ((H c).conEn rh rp).slot < 4) ∧ ((H c).c ((H c).conEn rh rp).slot.toNat).x.st = 0) :
    Trip Tryz.prog 90 #[hv c, .int .i64 rh, .int .i64 rp] [g] (fun u S' => ∃ (v : Value) (gv gd g' : List Chunk), u = .tuple #[.int .i64 ((H c).conS rh rp), v, .int .i64 ((H c).t.connect rh rp).2.1] ∧ Frs v ((H c).conF rh rp) gv gd ∧ HsG (upA H c ((H c).conH rh rp)) hv bv g' ∧ S' = [gv, gd, g']) := i90 hh c3 ok hlo h5 rh rp h7
theorem j95 (hh : HsG H hv bv g) (c3 : c < 3) (ok : (H c).Ok) (hlo : (H c).lost + 50 ≤ 1152921504606846976) (sd : Int) (b : Nat) (l : List Int) (hb : Bytes l) (hl : l.length ≤ 140737488355328) (hsl : (H c).oursB sd = true → 0 ≤ ((H c).ent sd).slot ∧ ((H c).ent sd).slot < 4) :
    Trip Tryz.prog 95 #[hv c, .int .i64 sd, byV b l] [g, byG b l 5] (fun u S' => ∃ (v : Value) (gv gd g' : List Chunk), u = .tuple #[.int .i64 ((H c).sndN sd l), v, .int .i64 ((H c).sendE sd l)] ∧ Frs v ((H c).sndF sd l) gv gd ∧ HsG (upA H c ((H c).sndH sd l)) hv bv g' ∧ S' = [gv, gd, g', byG b l 5]) := by
  obtain ⟨q, lk, dr, rest, e1, e2, a1, a2, a3⟩ := hh.at c3
  rw [e1]
  refine (t95 q (H c) lk dr sd b 0 l.length l.length 5 (bV l).toArray l ok a1 hlo (BytAt.full hb (by omega)) hsl).over (F := rest) (o5p _ a2) ?_
  unfold Hst.sndF Hst.sndH Hst.sndN
  rintro u A' (⟨b1, b2, b3⟩ | ⟨b1, lk', dr', v', gv', gd', b2, b3, b4, b5⟩)
  · obtain ⟨g', d1, d2⟩ := a3 (H c) lk dr a1
    rw [if_neg b1, if_neg b1, if_neg b1]
    exact HPost.mk0 (m := fun v => .tuple #[.int .i64 0, v, .int .i64 ((H c).sendE sd l)]) b2 rfl d1 d2 b3
  · obtain ⟨g', d1, d2⟩ := a3 _ lk' dr' (b2.trans (Hst.aft_addr _ _ _ _).symm)
    rw [if_pos b1, if_pos b1, if_pos b1, b1]
    exact HPost.mk (m := fun v => .tuple #[.int .i64 ((H c).cn sd |>.send l).2.1, v, .int .i64 0]) b3 (.of b4) d1 d2 b5
theorem j104 (hh : HsG H hv bv g) (c3 : c < 3) (ok : (H c).Ok) (hlo : (H c).lost + 200 ≤ 1152921504606846976) (sd : Int) (hsh : (H c).lisB sd = true → (H c).ShutOk sd) (hsl : (H c).oursB sd = true → 0 ≤ ((H c).ent sd).slot ∧ ((H c).ent sd).slot < 4) :
    Trip Tryz.prog 104 #[hv c, .int .i64 sd] [g] (fun u S' => ∃ (v : Value) (gv gd g' : List Chunk), u = .tuple #[v, .int .i64 ((H c).closeE sd)] ∧ Frs v ((H c).closeG sd) gv gd ∧ HsG (upA H c ((H c).closeK sd)) hv bv g' ∧ S' = [gv, gd, g']) := i104 hh c3 ok hlo sd hsh hsl
theorem j103 (hh : HsG H hv bv g) (c3 : c < 3) (ok : (H c).Ok) (hlo : (H c).lost + 200 ≤ 1152921504606846976) (sd : Int) (hsh : (H c).lisB sd = true → (H c).ShutOk sd) (hsl : (H c).oursB sd = true → 0 ≤ ((H c).ent sd).slot ∧ ((H c).ent sd).slot < 4) :
    Trip Tryz.prog 103 #[hv c, .int .i64 sd] [g] (fun u S' => ∃ (v : Value) (gv gd g' : List Chunk), u = .tuple #[v, .int .i64 ((H c).abortE sd)] ∧ Frs v ((H c).abortG sd) gv gd ∧ HsG (upA H c ((H c).abortK sd)) hv bv g' ∧ S' = [gv, gd, g']) := i103 hh c3 ok hlo sd hsh hsl
end
theorem NtG.mk {b : Nat} {v : Value} {l : List Ned} {gv gd : List Chunk} {dl : Nat → Int} (h : LstN 83 16 edR v l gv gd) : NtG b l dl ([(b, .cells (Nt.mk v dl).enc 80 (0, 0))] ++ (gv ++ gd)) := ⟨v, gv, gd, h, rfl⟩
theorem i96s {b : Nat} {l : List Ned} {dl : Nat → Int} {g : List Chunk} (h : NtG b l dl g) (i m : Int) (b2 cap e : Nat) (cs : Array Value) (fz : Nat × Nat) (d : List Int) (hy : BytAt 0 d.length cap cs d) (hs : ∀ x ∈ l, x.sent.length ≤ 1000000000000) (hm : m ≤ 1000000) : Trip Tryz.prog 96 #[.pointer (some ⟨b, 0, none⟩), .int .i64 i, .int .i64 m, .slice (some ⟨b2, 0, none⟩) d.length cap] [g, [(b2, .cells cs e fz)]] (fun u S' => ∃ g', u = .bool (nTook l i m d) ∧ NtG b (nTaken l i m d) dl g' ∧ S' = [g', [(b2, .cells cs e fz)]]) := by
  obtain ⟨v, gv, gd, hw, rfl⟩ := h
  refine (t96s b v l gv gd dl i m b2 0 d.length cap e cs d hw hy hs hy.len hm fz).over (F := []) (by simp) ?_
  rintro u A' ⟨gv', gd', h1, h2, rfl⟩
  exact ⟨_, ⟨_, h1, ⟨v, gv', gd', h2, rfl⟩, rfl⟩, by simp⟩
theorem i84 {b : Nat} {l : List Flt} {g : List Chunk} (h : WrG b l g) (h64 : l.length ≤ 64) : Trip Tryz.prog 84 #[.pointer (some ⟨b, 0, none⟩)] [g] (fun u S' => ∃ g', u = .tuple #[] ∧ WrG b (wTick l) g' ∧ S' = [g']) := by
  obtain ⟨v, gv, gd, hw, rfl⟩ := h
  refine (t84 b v l gv gd hw h64).over (F := []) (by simp) ?_
  rintro u A' ⟨gv', h1, h2, rfl⟩
  exact ⟨_, ⟨_, h1, ⟨v, gv', gd, h2, rfl⟩, rfl⟩, by simp⟩
end Go.Proofs.Qxb6500351aGreat
