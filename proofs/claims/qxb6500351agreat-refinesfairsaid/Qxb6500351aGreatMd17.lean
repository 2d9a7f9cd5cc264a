/- THE PLAIN FUNCTIONS of the abstract network; its ends in memory. MADE BY PROGRAM (tools/mkmd17.py). -/
import Derived.Test.Qxb6500351aGreatMd16
import Derived.Test.Qxb6500351aGreatEngT
set_option linter.unusedVariables false
set_option linter.unusedSimpArgs false
namespace Go.Proofs.Qxb6500351aGreat
open Go.Eng
structure Ned where
  host : Int
  sd : Int
  lPort : Int
  rHost : Int
  rPort : Int
  client : Bool
  peer : Int
  sent : List Int
  rcvd : List Int
  offered : Int
  state : Int
  why : Int
  closed : Bool
  peerFin : Bool
  wasOpen : Bool
  gone : Bool
def Ned.ed (x : Ned) (vs vr : Value) : Ed := ⟨x.host, x.sd, x.lPort, x.rHost, x.rPort, x.client, x.peer, vs, vr, x.offered, x.state, x.why, x.closed, x.peerFin, x.wasOpen, x.gone⟩
def edR (xs : List Value) (x : Ned) (g : List Chunk) : Prop := ∃ vs vr gs gr, xs = (x.ed vs vr).enc.toList ∧ g = gs ++ gr ∧ GB vs x.sent gs ∧ GB vr x.rcvd gr
abbrev EdO (b cap : Nat) (cur : Array Value) (l : List Ned) (gd : List Chunk) : Prop := LOpen 83 16 edR b cap cur l gd
theorem gb_plain {v : Value} {l : List Int} {g : List Chunk} (h : GB v l g) : plainV v = true := by
  rcases h.at with ⟨rfl, _⟩ | ⟨b, cap, cur, rfl, _⟩ <;> rfl
theorem edR_plain : ∀ xs a g, edR xs a g → xs.all plainV = true := by
  rintro xs a g ⟨vs, vr, gs, gr, rfl, _, h1, h2⟩
  simp only [Ned.ed, Ed.enc, List.all_cons, gb_plain h1, gb_plain h2, Bool.true_and, List.all_nil]
  rfl
theorem Ed.l_host {b cap : Nat} {cur : Array Value} {l : List Ned} {gd : List Chunk} (h : EdO b cap cur l gd) (k : Nat) (hk : k < l.length) {o : Nat} (ho : o = 0 + k * 16 + 0) : cur[o]? = some (.int .i64 (l[k]).host) :=
  LOpen.field h k hk (by omega) (fun x g ⟨vs, vr, gs, gr, hx, _⟩ => by subst hx; rfl) o ho
theorem Ed.w_host {b cap : Nat} {cur : Array Value} {l : List Ned} {gd : List Chunk} (h : EdO b cap cur l gd) (k : Nat) (hk : k < l.length) {o : Nat} (ho : o = 0 + k * 16 + 0) (x : Int) : EdO b cap (cur.setIfInBounds o (.int .i64 x)) (l.set k { l[k] with host := x }) gd :=
  LOpen.set h k hk (by omega) (fun y g ⟨vs, vr, gs, gr, hx, hg, h1, h2⟩ => by subst hx; exact ⟨vs, vr, gs, gr, rfl, hg, h1, h2⟩) o ho
theorem Ed.l_sd {b cap : Nat} {cur : Array Value} {l : List Ned} {gd : List Chunk} (h : EdO b cap cur l gd) (k : Nat) (hk : k < l.length) {o : Nat} (ho : o = 0 + k * 16 + 1) : cur[o]? = some (.int .i64 (l[k]).sd) :=
  LOpen.field h k hk (by omega) (fun x g ⟨vs, vr, gs, gr, hx, _⟩ => by subst hx; rfl) o ho
theorem Ed.w_sd {b cap : Nat} {cur : Array Value} {l : List Ned} {gd : List Chunk} (h : EdO b cap cur l gd) (k : Nat) (hk : k < l.length) {o : Nat} (ho : o = 0 + k * 16 + 1) (x : Int) : EdO b cap (cur.setIfInBounds o (.int .i64 x)) (l.set k { l[k] with sd := x }) gd :=
  LOpen.set h k hk (by omega) (fun y g ⟨vs, vr, gs, gr, hx, hg, h1, h2⟩ => by subst hx; exact ⟨vs, vr, gs, gr, rfl, hg, h1, h2⟩) o ho
theorem Ed.l_lPort {b cap : Nat} {cur : Array Value} {l : List Ned} {gd : List Chunk} (h : EdO b cap cur l gd) (k : Nat) (hk : k < l.length) {o : Nat} (ho : o = 0 + k * 16 + 2) : cur[o]? = some (.int .i64 (l[k]).lPort) :=
  LOpen.field h k hk (by omega) (fun x g ⟨vs, vr, gs, gr, hx, _⟩ => by subst hx; rfl) o ho
theorem Ed.w_lPort {b cap : Nat} {cur : Array Value} {l : List Ned} {gd : List Chunk} (h : EdO b cap cur l gd) (k : Nat) (hk : k < l.length) {o : Nat} (ho : o = 0 + k * 16 + 2) (x : Int) : EdO b cap (cur.setIfInBounds o (.int .i64 x)) (l.set k { l[k] with lPort := x }) gd :=
  LOpen.set h k hk (by omega) (fun y g ⟨vs, vr, gs, gr, hx, hg, h1, h2⟩ => by subst hx; exact ⟨vs, vr, gs, gr, rfl, hg, h1, h2⟩) o ho
theorem Ed.l_rHost {b cap : Nat} {cur : Array Value} {l : List Ned} {gd : List Chunk} (h : EdO b cap cur l gd) (k : Nat) (hk : k < l.length) {o : Nat} (ho : o = 0 + k * 16 + 3) : cur[o]? = some (.int .i64 (l[k]).rHost) :=
  LOpen.field h k hk (by omega) (fun x g ⟨vs, vr, gs, gr, hx, _⟩ => by subst hx; rfl) o ho
theorem Ed.w_rHost {b cap : Nat} {cur : Array Value} {l : List Ned} {gd : List Chunk} (h : EdO b cap cur l gd) (k : Nat) (hk : k < l.length) {o : Nat} (ho : o = 0 + k * 16 + 3) (x : Int) : EdO b cap (cur.setIfInBounds o (.int .i64 x)) (l.set k { l[k] with rHost := x }) gd :=
  LOpen.set h k hk (by omega) (fun y g ⟨vs, vr, gs, gr, hx, hg, h1, h2⟩ => by subst hx; exact ⟨vs, vr, gs, gr, rfl, hg, h1, h2⟩) o ho
theorem Ed.l_rPort {b cap : Nat} {cur : Array Value} {l : List Ned} {gd : List Chunk} (h : EdO b cap cur l gd) (k : Nat) (hk : k < l.length) {o : Nat} (ho : o = 0 + k * 16 + 4) : cur[o]? = some (.int .i64 (l[k]).rPort) :=
  LOpen.field h k hk (by omega) (fun x g ⟨vs, vr, gs, gr, hx, _⟩ => by subst hx; rfl) o ho
theorem Ed.w_rPort {b cap : Nat} {cur : Array Value} {l : List Ned} {gd : List Chunk} (h : EdO b cap cur l gd) (k : Nat) (hk : k < l.length) {o : Nat} (ho : o = 0 + k * 16 + 4) (x : Int) : EdO b cap (cur.setIfInBounds o (.int .i64 x)) (l.set k { l[k] with rPort := x }) gd :=
  LOpen.set h k hk (by omega) (fun y g ⟨vs, vr, gs, gr, hx, hg, h1, h2⟩ => by subst hx; exact ⟨vs, vr, gs, gr, rfl, hg, h1, h2⟩) o ho
theorem Ed.l_client {b cap : Nat} {cur : Array Value} {l : List Ned} {gd : List Chunk} (h : EdO b cap cur l gd) (k : Nat) (hk : k < l.length) {o : Nat} (ho : o = 0 + k * 16 + 5) : cur[o]? = some (.bool (l[k]).client) :=
  LOpen.field h k hk (by omega) (fun x g ⟨vs, vr, gs, gr, hx, _⟩ => by subst hx; rfl) o ho
theorem Ed.w_client {b cap : Nat} {cur : Array Value} {l : List Ned} {gd : List Chunk} (h : EdO b cap cur l gd) (k : Nat) (hk : k < l.length) {o : Nat} (ho : o = 0 + k * 16 + 5) (x : Bool) : EdO b cap (cur.setIfInBounds o (.bool x)) (l.set k { l[k] with client := x }) gd :=
  LOpen.set h k hk (by omega) (fun y g ⟨vs, vr, gs, gr, hx, hg, h1, h2⟩ => by subst hx; exact ⟨vs, vr, gs, gr, rfl, hg, h1, h2⟩) o ho
theorem Ed.l_peer {b cap : Nat} {cur : Array Value} {l : List Ned} {gd : List Chunk} (h : EdO b cap cur l gd) (k : Nat) (hk : k < l.length) {o : Nat} (ho : o = 0 + k * 16 + 6) : cur[o]? = some (.int .i64 (l[k]).peer) :=
  LOpen.field h k hk (by omega) (fun x g ⟨vs, vr, gs, gr, hx, _⟩ => by subst hx; rfl) o ho
theorem Ed.w_peer {b cap : Nat} {cur : Array Value} {l : List Ned} {gd : List Chunk} (h : EdO b cap cur l gd) (k : Nat) (hk : k < l.length) {o : Nat} (ho : o = 0 + k * 16 + 6) (x : Int) : EdO b cap (cur.setIfInBounds o (.int .i64 x)) (l.set k { l[k] with peer := x }) gd :=
  LOpen.set h k hk (by omega) (fun y g ⟨vs, vr, gs, gr, hx, hg, h1, h2⟩ => by subst hx; exact ⟨vs, vr, gs, gr, rfl, hg, h1, h2⟩) o ho
theorem Ed.v_sent {b cap : Nat} {cur : Array Value} {l : List Ned} {gd : List Chunk} (h : EdO b cap cur l gd) (k : Nat) (hk : k < l.length) : ∃ p cp, ∀ o, o = 0 + k * 16 + 7 → cur[o]? = some (.slice p (l[k]).sent.length cp) := by
  obtain ⟨xs, ga, g1, gb, _, ⟨vs, vr, gs, gr, hx, hg, h1, h2⟩, _, hc⟩ := h.at k hk
  obtain ⟨p, cp, hv⟩ := h1.1.slice
  refine ⟨p, cp, fun o ho => ?_⟩
  rw [hc 7 o (by omega) ho, hx]
  show some vs = _
  rw [hv]
theorem Ed.v_rcvd {b cap : Nat} {cur : Array Value} {l : List Ned} {gd : List Chunk} (h : EdO b cap cur l gd) (k : Nat) (hk : k < l.length) : ∃ p cp, ∀ o, o = 0 + k * 16 + 8 → cur[o]? = some (.slice p (l[k]).rcvd.length cp) := by
  obtain ⟨xs, ga, g1, gb, _, ⟨vs, vr, gs, gr, hx, hg, h1, h2⟩, _, hc⟩ := h.at k hk
  obtain ⟨p, cp, hv⟩ := h2.1.slice
  refine ⟨p, cp, fun o ho => ?_⟩
  rw [hc 8 o (by omega) ho, hx]
  show some vr = _
  rw [hv]
theorem Ed.l_offered {b cap : Nat} {cur : Array Value} {l : List Ned} {gd : List Chunk} (h : EdO b cap cur l gd) (k : Nat) (hk : k < l.length) {o : Nat} (ho : o = 0 + k * 16 + 9) : cur[o]? = some (.int .i64 (l[k]).offered) :=
  LOpen.field h k hk (by omega) (fun x g ⟨vs, vr, gs, gr, hx, _⟩ => by subst hx; rfl) o ho
theorem Ed.w_offered {b cap : Nat} {cur : Array Value} {l : List Ned} {gd : List Chunk} (h : EdO b cap cur l gd) (k : Nat) (hk : k < l.length) {o : Nat} (ho : o = 0 + k * 16 + 9) (x : Int) : EdO b cap (cur.setIfInBounds o (.int .i64 x)) (l.set k { l[k] with offered := x }) gd :=
  LOpen.set h k hk (by omega) (fun y g ⟨vs, vr, gs, gr, hx, hg, h1, h2⟩ => by subst hx; exact ⟨vs, vr, gs, gr, rfl, hg, h1, h2⟩) o ho
theorem Ed.l_state {b cap : Nat} {cur : Array Value} {l : List Ned} {gd : List Chunk} (h : EdO b cap cur l gd) (k : Nat) (hk : k < l.length) {o : Nat} (ho : o = 0 + k * 16 + 10) : cur[o]? = some (.int .i64 (l[k]).state) :=
  LOpen.field h k hk (by omega) (fun x g ⟨vs, vr, gs, gr, hx, _⟩ => by subst hx; rfl) o ho
theorem Ed.w_state {b cap : Nat} {cur : Array Value} {l : List Ned} {gd : List Chunk} (h : EdO b cap cur l gd) (k : Nat) (hk : k < l.length) {o : Nat} (ho : o = 0 + k * 16 + 10) (x : Int) : EdO b cap (cur.setIfInBounds o (.int .i64 x)) (l.set k { l[k] with state := x }) gd :=
  LOpen.set h k hk (by omega) (fun y g ⟨vs, vr, gs, gr, hx, hg, h1, h2⟩ => by subst hx; exact ⟨vs, vr, gs, gr, rfl, hg, h1, h2⟩) o ho
theorem Ed.l_why {b cap : Nat} {cur : Array Value} {l : List Ned} {gd : List Chunk} (h : EdO b cap cur l gd) (k : Nat) (hk : k < l.length) {o : Nat} (ho : o = 0 + k * 16 + 11) : cur[o]? = some (.int .i64 (l[k]).why) :=
  LOpen.field h k hk (by omega) (fun x g ⟨vs, vr, gs, gr, hx, _⟩ => by subst hx; rfl) o ho
theorem Ed.w_why {b cap : Nat} {cur : Array Value} {l : List Ned} {gd : List Chunk} (h : EdO b cap cur l gd) (k : Nat) (hk : k < l.length) {o : Nat} (ho : o = 0 + k * 16 + 11) (x : Int) : EdO b cap (cur.setIfInBounds o (.int .i64 x)) (l.set k { l[k] with why := x }) gd :=
  LOpen.set h k hk (by omega) (fun y g ⟨vs, vr, gs, gr, hx, hg, h1, h2⟩ => by subst hx; exact ⟨vs, vr, gs, gr, rfl, hg, h1, h2⟩) o ho
theorem Ed.l_closed {b cap : Nat} {cur : Array Value} {l : List Ned} {gd : List Chunk} (h : EdO b cap cur l gd) (k : Nat) (hk : k < l.length) {o : Nat} (ho : o = 0 + k * 16 + 12) : cur[o]? = some (.bool (l[k]).closed) :=
  LOpen.field h k hk (by omega) (fun x g ⟨vs, vr, gs, gr, hx, _⟩ => by subst hx; rfl) o ho
theorem Ed.w_closed {b cap : Nat} {cur : Array Value} {l : List Ned} {gd : List Chunk} (h : EdO b cap cur l gd) (k : Nat) (hk : k < l.length) {o : Nat} (ho : o = 0 + k * 16 + 12) (x : Bool) : EdO b cap (cur.setIfInBounds o (.bool x)) (l.set k { l[k] with closed := x }) gd :=
  LOpen.set h k hk (by omega) (fun y g ⟨vs, vr, gs, gr, hx, hg, h1, h2⟩ => by subst hx; exact ⟨vs, vr, gs, gr, rfl, hg, h1, h2⟩) o ho
theorem Ed.l_peerFin {b cap : Nat} {cur : Array Value} {l : List Ned} {gd : List Chunk} (h : EdO b cap cur l gd) (k : Nat) (hk : k < l.length) {o : Nat} (ho : o = 0 + k * 16 + 13) : cur[o]? = some (.bool (l[k]).peerFin) :=
  LOpen.field h k hk (by omega) (fun x g ⟨vs, vr, gs, gr, hx, _⟩ => by subst hx; rfl) o ho
theorem Ed.w_peerFin {b cap : Nat} {cur : Array Value} {l : List Ned} {gd : List Chunk} (h : EdO b cap cur l gd) (k : Nat) (hk : k < l.length) {o : Nat} (ho : o = 0 + k * 16 + 13) (x : Bool) : EdO b cap (cur.setIfInBounds o (.bool x)) (l.set k { l[k] with peerFin := x }) gd :=
  LOpen.set h k hk (by omega) (fun y g ⟨vs, vr, gs, gr, hx, hg, h1, h2⟩ => by subst hx; exact ⟨vs, vr, gs, gr, rfl, hg, h1, h2⟩) o ho
theorem Ed.l_wasOpen {b cap : Nat} {cur : Array Value} {l : List Ned} {gd : List Chunk} (h : EdO b cap cur l gd) (k : Nat) (hk : k < l.length) {o : Nat} (ho : o = 0 + k * 16 + 14) : cur[o]? = some (.bool (l[k]).wasOpen) :=
  LOpen.field h k hk (by omega) (fun x g ⟨vs, vr, gs, gr, hx, _⟩ => by subst hx; rfl) o ho
theorem Ed.w_wasOpen {b cap : Nat} {cur : Array Value} {l : List Ned} {gd : List Chunk} (h : EdO b cap cur l gd) (k : Nat) (hk : k < l.length) {o : Nat} (ho : o = 0 + k * 16 + 14) (x : Bool) : EdO b cap (cur.setIfInBounds o (.bool x)) (l.set k { l[k] with wasOpen := x }) gd :=
  LOpen.set h k hk (by omega) (fun y g ⟨vs, vr, gs, gr, hx, hg, h1, h2⟩ => by subst hx; exact ⟨vs, vr, gs, gr, rfl, hg, h1, h2⟩) o ho
theorem Ed.l_gone {b cap : Nat} {cur : Array Value} {l : List Ned} {gd : List Chunk} (h : EdO b cap cur l gd) (k : Nat) (hk : k < l.length) {o : Nat} (ho : o = 0 + k * 16 + 15) : cur[o]? = some (.bool (l[k]).gone) :=
  LOpen.field h k hk (by omega) (fun x g ⟨vs, vr, gs, gr, hx, _⟩ => by subst hx; rfl) o ho
theorem Ed.w_gone {b cap : Nat} {cur : Array Value} {l : List Ned} {gd : List Chunk} (h : EdO b cap cur l gd) (k : Nat) (hk : k < l.length) {o : Nat} (ho : o = 0 + k * 16 + 15) (x : Bool) : EdO b cap (cur.setIfInBounds o (.bool x)) (l.set k { l[k] with gone := x }) gd :=
  LOpen.set h k hk (by omega) (fun y g ⟨vs, vr, gs, gr, hx, hg, h1, h2⟩ => by subst hx; exact ⟨vs, vr, gs, gr, rfl, hg, h1, h2⟩) o ho
theorem Ed.bnd {b cap : Nat} {cur : Array Value} {l : List Ned} {gd : List Chunk} (h : EdO b cap cur l gd) (k : Nat) (hk : k < l.length) (f : Nat) (hf : f < 16) {o : Nat} (ho : o = 0 + k * 16 + f) : o < cur.size := LOpen.bound h k hk hf o ho
/-- a slice of one end is taken out, and another laid in its place -/
theorem Ed.cut_sent {b cap : Nat} {cur : Array Value} {l : List Ned} {gd : List Chunk} (h : EdO b cap cur l gd) (k : Nat) (hk : k < l.length) : ∃ v g ga gb, gd = ga ++ g ++ gb ∧ GB v (l[k]).sent g ∧ (∀ o, o = 0 + k * 16 + 7 → cur[o]? = some v) ∧
    (∀ o (v' : Value) (m : List Int) (g' : List Chunk), o = 0 + k * 16 + 7 → GB v' m g' → EdO b cap (cur.setIfInBounds o v') (l.set k { l[k] with sent := m }) (ga ++ g' ++ gb)) := by
  obtain ⟨pa, x, pb, ga, g1, gb, h1, h2, h3, ⟨vs, vr, gs, gr, hx, hg, hs, hr⟩, h5, h6, h7⟩ := h.ex.get k hk
  have hsz := h.size
  have hle := h.le
  have hb : (k + 1) * 16 ≤ cap * 16 := Nat.mul_le_mul_right _ (by omega)
  refine ⟨vs, gs, ga, (gr ++ gb), by rw [h5, hg]; simp only [List.append_assoc], hs, ?_, ?_⟩
  · rintro o rfl
    exact vec_get (m := l.length * 16) (xs := pa ++ x ++ pb) h1 (by rw [List.append_assoc, List.getElem?_append_right (by omega), List.getElem?_append_left (by omega), hx]; have e : 0 + k * 16 + 7 - pa.length = 7 := by omega
                                                                    rw [e]; rfl)
  · rintro o v' m g' rfl hm
    refine ⟨by rw [List.length_set]; exact h.le, h.capm, by rw [Array.size_setIfInBounds]; exact h.size, ?_⟩
    have e1 : (cur.setIfInBounds (0 + k * 16 + 7) v').toList.take ((l.set k { l[k] with sent := m }).length * 16) = pa ++ x.set 7 v' ++ pb := by
      rw [List.length_set, Array.toList_setIfInBounds, List.take_set, h1, List.append_assoc, List.append_assoc]
      rw [List.set_append_right (h := by omega), List.set_append_left (h := by omega)]
      congr 3; omega
    rw [e1]
    have e2 := Elems.put (a := { l[k] with sent := m }) (g1 := (g' ++ gr)) hk h6 (by rw [List.length_set]; exact h3) (x := x.set 7 v') (R := edR) ⟨v', vr, g', gr, by rw [hx]; rfl, rfl, hm, hr⟩ h7
    refine cast (congrArg _ ?_) e2
    simp only [List.append_assoc]
theorem Ed.cut_rcvd {b cap : Nat} {cur : Array Value} {l : List Ned} {gd : List Chunk} (h : EdO b cap cur l gd) (k : Nat) (hk : k < l.length) : ∃ v g ga gb, gd = ga ++ g ++ gb ∧ GB v (l[k]).rcvd g ∧ (∀ o, o = 0 + k * 16 + 8 → cur[o]? = some v) ∧
    (∀ o (v' : Value) (m : List Int) (g' : List Chunk), o = 0 + k * 16 + 8 → GB v' m g' → EdO b cap (cur.setIfInBounds o v') (l.set k { l[k] with rcvd := m }) (ga ++ g' ++ gb)) := by
  obtain ⟨pa, x, pb, ga, g1, gb, h1, h2, h3, ⟨vs, vr, gs, gr, hx, hg, hs, hr⟩, h5, h6, h7⟩ := h.ex.get k hk
  have hsz := h.size
  have hle := h.le
  have hb : (k + 1) * 16 ≤ cap * 16 := Nat.mul_le_mul_right _ (by omega)
  refine ⟨vr, gr, (ga ++ gs), gb, by rw [h5, hg]; simp only [List.append_assoc], hr, ?_, ?_⟩
  · rintro o rfl
    exact vec_get (m := l.length * 16) (xs := pa ++ x ++ pb) h1 (by rw [List.append_assoc, List.getElem?_append_right (by omega), List.getElem?_append_left (by omega), hx]; have e : 0 + k * 16 + 8 - pa.length = 8 := by omega
                                                                    rw [e]; rfl)
  · rintro o v' m g' rfl hm
    refine ⟨by rw [List.length_set]; exact h.le, h.capm, by rw [Array.size_setIfInBounds]; exact h.size, ?_⟩
    have e1 : (cur.setIfInBounds (0 + k * 16 + 8) v').toList.take ((l.set k { l[k] with rcvd := m }).length * 16) = pa ++ x.set 8 v' ++ pb := by
      rw [List.length_set, Array.toList_setIfInBounds, List.take_set, h1, List.append_assoc, List.append_assoc]
      rw [List.set_append_right (h := by omega), List.set_append_left (h := by omega)]
      congr 3; omega
    rw [e1]
    have e2 := Elems.put (a := { l[k] with rcvd := m }) (g1 := (gs ++ g')) hk h6 (by rw [List.length_set]; exact h3) (x := x.set 8 v') (R := edR) ⟨vs, v', gs, g', by rw [hx]; rfl, rfl, hs, hm⟩ h7
    refine cast (congrArg _ ?_) e2
    simp only [List.append_assoc]
theorem lstE_of_open {b cap n : Nat} {cur : Array Value} {l : List Ned} {gd : List Chunk} (h : EdO b cap cur l gd) (hl : l.length = n) : LstN 83 16 edR (.slice (some ⟨b, 0, none⟩) n cap) l [(b, .cells cur 83 (0, 0))] gd := by
  subst hl; exact .of (LOpen.shut h)
theorem lstN_bnd {α : Type} {e sz : Nat} {R : List Value → α → List Chunk → Prop} {v : Value} {l : List α} {gv gd : List Chunk} (h : LstN e sz R v l gv gd) : l.length ≤ 9223372036854775807 := by
  obtain ⟨xs, ⟨_, ⟨_, h0, _⟩ | ⟨b, cap, cur, _, _, h1, h2, _⟩⟩, _⟩ := h
  · omega
  · rw [maxLen_eq] at h2; omega
/-! the network's functions -/
def nFind (l : List Ned) (h sd : Int) : Int := match l.findIdx? (fun x => decide (x.host = h) && decide (x.sd = sd)) with
  | none => -1
  | some i => (i : Int)
def nHas (l : List Ned) (i : Int) : Bool := decide (0 ≤ i ∧ i < l.length)
def mayStep (a b : Int) : Bool := decide (a = b) || (if a = 1 ∨ a = 2 then decide (b = 3 ∨ b = 4) else if a = 3 then decide (b = 4) else false)
def Ned.failed (x : Ned) : Bool := decide (x.state = 4) && decide (x.why ≠ 0)
def Ned.at (h lp rh rp : Int) (c : Bool) (x : Ned) : Bool := decide (x.host = h) && decide (x.lPort = lp) && decide (x.rHost = rh) && decide (x.rPort = rp) && (x.client == c)
def nLatest (l : List Ned) (h lp rh rp : Int) (c : Bool) : Int := match l.reverse.findIdx? (Ned.at h lp rh rp c) with
  | none => -1
  | some i => (l.length : Int) - 1 - i
theorem take_step {α : Type} {P : α → Prop} {l : List α} {k : Nat} (h : ∀ x ∈ l.take k, P x) (hk : k < l.length) (hp : P l[k]) : ∀ x ∈ l.take (k + 1), P x := by
  intro x hx
  rw [List.take_add_one, List.mem_append] at hx
  rcases hx with hx | hx
  · exact h x hx
  · rw [List.getElem?_eq_getElem hk, Option.toList_some, List.mem_singleton] at hx; subst hx; exact hp
theorem take_all {α : Type} {P : α → Prop} {l : List α} {k : Nat} (h : ∀ x ∈ l.take k, P x) (hk : l.length ≤ k) : ∀ x ∈ l, P x := by rw [List.take_of_length_le hk] at h; exact h
theorem drop_step {α : Type} {P : α → Prop} {l : List α} {k : Nat} (h : ∀ x ∈ l.drop (k + 1), P x) (hk : k < l.length) (hp : P l[k]) : ∀ x ∈ l.drop k, P x := by
  intro x hx
  rw [List.drop_eq_getElem_cons hk, List.mem_cons] at hx
  rcases hx with hx | hx
  · subst hx; exact hp
  · exact h x hx
theorem nFind_at {l : List Ned} {k : Nat} {a b : Int} (h : ∀ x ∈ l.take k, ¬ (x.host = a ∧ x.sd = b)) (hk : k < l.length) (e : l[k].host = a ∧ l[k].sd = b) : nFind l a b = k := by
  have : l.findIdx? (fun x => decide (x.host = a) && decide (x.sd = b)) = some k := by
    rw [List.findIdx?_eq_some_iff_getElem]
    refine ⟨hk, by simp [e], fun j hj => ?_⟩
    have := h l[j] (List.mem_take_iff_getElem.2 ⟨j, by omega, rfl⟩)
    simpa using this
  unfold nFind; rw [this]
theorem nFind_none {l : List Ned} {a b : Int} (h : ∀ x ∈ l, ¬ (x.host = a ∧ x.sd = b)) : nFind l a b = -1 := by
  have : l.findIdx? (fun x => decide (x.host = a) && decide (x.sd = b)) = none := by
    rw [List.findIdx?_eq_none_iff]
    intro x hx
    have := h x hx
    simpa using this
  unfold nFind; rw [this]
theorem nLatest_at {l : List Ned} {k : Nat} {a b c d : Int} {e : Bool} (h : ∀ x ∈ l.drop (k + 1), Ned.at a b c d e x = false) (hk : k < l.length) (hp : Ned.at a b c d e l[k] = true) : nLatest l a b c d e = k := by
  have : l.reverse.findIdx? (Ned.at a b c d e) = some (l.length - 1 - k) := by
    rw [List.findIdx?_eq_some_iff_getElem]
    refine ⟨by rw [List.length_reverse]; omega, ?_, fun j hj => ?_⟩
    · rw [List.getElem_reverse]
      have e1 : l.length - 1 - (l.length - 1 - k) = k := by omega
      simp only [e1, hp]
    · rw [List.getElem_reverse]
      have := h (l[l.length - 1 - j]'(by omega)) (by
        rw [List.mem_drop_iff_getElem]
        exact ⟨l.length - 1 - j - (k + 1), by omega, by congr 1; omega⟩)
      simp [this]
  unfold nLatest; rw [this]; dsimp only; omega
theorem nLatest_none {l : List Ned} {a b c d : Int} {e : Bool} (h : ∀ x ∈ l, Ned.at a b c d e x = false) : nLatest l a b c d e = -1 := by
  have : l.reverse.findIdx? (Ned.at a b c d e) = none := by
    rw [List.findIdx?_eq_none_iff]
    intro x hx
    exact h x (List.mem_reverse.1 hx)
  unfold nLatest; rw [this]
theorem nHas_iff {l : List Ned} {i : Int} : nHas l i = true ↔ 0 ≤ i ∧ i < l.length := by unfold nHas; exact decide_eq_true_iff
theorem nHas_not {l : List Ned} {i : Int} (h : nHas l i = false) : ∀ x, l[i.toNat]? = some x → i < 0 := by
  intro x hx
  have h1 := (List.getElem?_eq_some_iff.1 hx).1
  unfold nHas at h
  have := of_decide_eq_false h
  omega
def nUpd (l : List Ned) (i : Int) (f : Ned → Ned) : List Ned := match l[i.toNat]? with
  | none => l
  | some x => if 0 ≤ i then l.set i.toNat (f x) else l
theorem nUpd_at {l : List Ned} {k : Nat} (hk : k < l.length) (f : Ned → Ned) : nUpd l k f = l.set k (f l[k]) := by
  unfold nUpd; rw [Int.toNat_natCast, List.getElem?_eq_getElem hk]; dsimp only; rw [if_pos (by omega)]
theorem nUpd_no {l : List Ned} {i : Int} (h : nHas l i = false) (f : Ned → Ned) : nUpd l i f = l := by
  unfold nUpd
  split
  · rfl
  · next x hx => rw [if_neg (by have := nHas_not h x hx; omega)]
def nUnl (l : List Ned) (i : Int) : Bool := match l[i.toNat]? with
  | none => false
  | some x => decide (0 ≤ i) && decide (x.state = 4)
theorem nUnl_at {l : List Ned} {k : Nat} (hk : k < l.length) : nUnl l k = decide (l[k].state = 4) := by
  unfold nUnl; rw [Int.toNat_natCast, List.getElem?_eq_getElem hk]; dsimp only; rw [decide_eq_true (by omega), Bool.true_and]
theorem nUnl_no {l : List Ned} {i : Int} (h : nHas l i = false) : nUnl l i = false := by
  unfold nUnl
  split
  · rfl
  · next x hx => rw [decide_eq_false (by have := nHas_not h x hx; omega), Bool.false_and]
def nUnlisted (l : List Ned) (i : Int) : List Ned := if nUnl l i = true then nUpd l i (fun x => { x with gone := true }) else l
def nNoneFailed (l : List Ned) : Bool := l.all fun x => !x.failed
def nAllGone (l : List Ned) : Bool := l.all fun x => x.gone
theorem all_not {α : Type} {p : α → Bool} {l : List α} {k : Nat} (hk : k < l.length) (h : p l[k] = false) : l.all p = false := by
  rw [List.all_eq_false]; exact ⟨l[k], List.getElem_mem hk, by simp [h]⟩
theorem all_yes {α : Type} {p : α → Bool} {l : List α} (h : ∀ x ∈ l, p x = true) : l.all p = true := by rw [List.all_eq_true]; exact h
def ciEnded (c : Ci) : Int := if c.why ≠ 0 then c.why else 15
def wantSend (c : Ci) (n : Int) : Int × Int := if c.state = 1 ∨ c.state = 2 then (0, 14) else if c.state = 4 then (0, ciEnded c) else if c.weClosed = true then (0, 15) else
  if 16 - c.queued < n then (if 16 - c.queued = 0 then (0, 14) else (16 - c.queued, 0)) else (n, 0)
def wantRecv (c : Ci) (m : Int) : Int × Int := if m ≤ 0 then (0, 24) else if c.avail = 0 then (if c.peerFin = true then (0, 16) else if c.state = 4 then (0, c.why) else (0, 14)) else if c.avail < m then (c.avail, 0) else (m, 0)
def wantClose (c : Ci) : Int := if c.state = 4 then ciEnded c else if c.state ≠ 1 ∧ c.weClosed = true then 15 else 0
def firstFrag (l : List Int) : Bool := decide (9 < l.length) && decide (l.getD 9 0 % 128 = 0)
end Go.Proofs.Qxb6500351aGreat
