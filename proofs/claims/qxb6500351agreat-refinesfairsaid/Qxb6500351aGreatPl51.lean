/- THE PLAIN LAW of the law's walk: the first world, the wire's ops. No Go in sight. -/
import Derived.Test.Qxb6500351aGreatPl50
set_option linter.unusedVariables false
set_option linter.unusedSimpArgs false
namespace Go.Proofs.Qxb6500351aGreat
open Go.Eng
def Wrld.init : Wrld := { H := fun h => Hst.init ((h : Int) + 1), wr := [], N := [], dl := fun _ => 0, top := fun _ => 0, seen := fun _ => [], lost := fun _ => 0, out := fun _ => 0, ticks := 0, flood := false, spilt := 0, ready := [] }
def Wrld.Good (x : Wrld) (k : Int) : Prop := ∃ w L, Law w L x k
theorem Tb.init_list : Tb.init.list = [] := by
  have h := (Tb.init_good.r.list).2.2
  cases hl : Tb.init.list with
  | nil => rfl
  | cons a l =>
    have := (h a).1 (by rw [hl]; exact List.mem_cons_self ..)
    obtain ⟨e, he⟩ := this
    rw [Tb.init_at] at he; cases he
theorem Law.init : Law W.init (fun _ => kidN 0 En.zero 0) Wrld.init 0 := by
  have no : ∀ i, i < W.init.n → False := fun i h => absurd h (Nat.not_lt_zero i)
  obtain ⟨I, sy⟩ := Inv.init
  refine ⟨I, sy, fun i h => (no i h).elim, fun h _ => rfl, rfl, fun i h => (no i h).elim, fun f hf => absurd hf (by simp [Wrld.init]), by simp [Wrld.init], fun h h3 => ⟨(by decide : (0 : Int) ≤ 0), (by decide : (0 : Int) < 1), fun sd hsd => absurd hsd (by simp [Wrld.init])⟩, fun h h3 => Tb.init_list.symm, fun h h3 => rfl, fun h h3 => rfl, rfl, rfl, ⟨fun h h3 p hp => rfl, fun y hy => absurd hy (by simp [Wrld.init])⟩, ?_⟩
  exact ⟨fun h h3 => (by decide : (1 : Int) ≤ 0 + 1), (by decide : (0 : Int) ≤ 0 ∧ (0 : Int) ≤ 0), fun h h3 => (by decide : (0 : Int) ≤ 0 ∧ (0 : Int) ≤ 200 * 0), (by decide : ((0 : Nat) : Int) ≤ 0), fun i h => (no i h).elim, (by decide : ((0 : Nat) : Int) ≤ 18 * 0), (by decide : (0 : Int) ≤ 0 ∧ (0 : Int) ≤ 72 * 0), fun h => (by decide : (0 : Int) ≤ 0 ∧ (0 : Int) ≤ 0)⟩
section
variable {w : W} {L : Nat → Ned} {x : Wrld} {k : Int}
theorem Law.wire (A : Law w L x k) {l : List Flt} (h : WrOk w.D w.now l) (hl : l.length ≤ 64) : Law w L { x with wr := l } k :=
  ⟨A.inv, A.syn, A.kc, A.H, A.N, A.ni, h, hl, A.top, A.seen, A.lost, A.out, A.tick, A.flood, A.rdy, ⟨A.b.nsd, A.b.now, A.b.lost, A.b.n, A.b.sent, A.b.ready, A.b.spilt, A.b.dl⟩⟩
theorem wRest_len {l : List Flt} (h : l.length ≤ 64) (i : Int) : (wRest l i).length ≤ 64 := by
  unfold wRest wRem
  split
  · rw [List.length_append, List.length_take, List.length_drop]; omega
  · exact h
theorem wDouble_len {l : List Flt} (h : l.length ≤ 64) (i : Int) : (wDouble l i).length ≤ 64 := by
  unfold wDouble
  split
  · rw [List.length_append, List.length_take, List.length_drop]; omega
  · exact h
theorem wFlip_len {l : List Flt} (h : l.length ≤ 64) (i bit : Int) : (wFlip l i bit).length ≤ 64 := by
  unfold wFlip
  split
  · exact h
  · split
    · rw [List.length_set]; exact h
    · exact h
theorem Law.rest (A : Law w L x k) (i : Int) : Law w L { x with wr := wRest x.wr i } k := A.wire (A.wr.rest i) (wRest_len A.wl i)
theorem Law.double (A : Law w L x k) (i : Int) : Law w L { x with wr := wDouble x.wr i } k := A.wire (A.wr.double i) (wDouble_len A.wl i)
theorem Law.flip (A : Law w L x k) (i bit : Int) : Law w L { x with wr := wFlip x.wr i bit } k := A.wire (A.wr.flip A.inv.dgr_ok i bit) (wFlip_len A.wl i bit)
theorem Law.mono (A : Law w L x k) {k' : Int} (h : k ≤ k') : Law w L x k' := by
  have B := A.b
  have k0 := B.now
  exact ⟨A.inv, A.syn, A.kc, A.H, A.N, A.ni, A.wr, A.wl, A.top, A.seen, A.lost, A.out, A.tick, A.flood, A.rdy, ⟨fun h h3 => by have := B.nsd h h3; omega, by omega, fun h h3 => by have := B.lost h h3; omega, by have := B.n; omega, fun i hi => by have := B.sent i hi; omega, by have := B.ready; omega, by have := B.spilt; omega, fun h => by have := B.dl h; omega⟩⟩
end
/-- sizes that the walks ask of a world -/
structure Szs (x : Wrld) : Prop where
  N : x.N.length ≤ 50000000000
  sent : ∀ y, y ∈ x.N → y.sent.length ≤ 900000000000 ∧ y.rcvd.length ≤ 900000000000
  peer : ∀ y, y ∈ x.N → y.peer < x.N.length
  dl : ∀ h, 0 ≤ x.dl h ∧ x.dl h ≤ 50000000000
  wl : x.wr.length ≤ 64
  top : ∀ h, h < 3 → 0 ≤ x.top h ∧ x.top h ≤ 50000000000
  seen : ∀ h, h < 3 → (x.seen h).length ≤ 6
  out : ∀ h, h < 3 → 0 ≤ x.out h ∧ x.out h ≤ 24
  lost : ∀ h, h < 3 → 0 ≤ x.lost h ∧ x.lost h ≤ 9000000000000
  ticks : 0 ≤ x.ticks ∧ x.ticks ≤ 50000000000
  spilt : 0 ≤ x.spilt ∧ x.spilt ≤ 9000000000000
  ready : x.ready.length ≤ 900000000000
  rh : ∀ r, r ∈ x.ready → 0 ≤ r.host ∧ r.host < 3
  flood : x.flood = false
theorem Law.szs {w : W} {L : Nat → Ned} {x : Wrld} {k : Int} (A : Law w L x k) (hk : k ≤ 40000000000) : Szs x := by
  have B := A.b
  have k0 := B.now
  have hN : x.N = LL L w.n := A.N
  have mem : ∀ y, y ∈ x.N → ∃ i, i < w.n ∧ y = L i := fun y hy => by
    rw [hN] at hy
    simp only [LL, List.mem_map, List.mem_range] at hy
    obtain ⟨i, hi, rfl⟩ := hy
    exact ⟨i, hi, rfl⟩
  refine ⟨by rw [hN, LL_len]; have := B.n; omega, fun y hy => ?_, fun y hy => ?_, fun h => by have := B.dl h; omega, A.wl, fun h h3 => by have := A.top h h3; have := B.nsd h h3; omega, fun h h3 => by rw [A.seen h h3]; exact Tb.list_len _, fun h h3 => by rw [A.out h h3]; have := A.inv.hT h; omega, fun h h3 => by rw [A.lost h h3]; have := B.lost h h3; omega, by rw [A.tick]; omega, by have := B.spilt; omega, by have := B.ready; omega, fun r hr => ⟨(A.rdy.hr r hr).1, (A.rdy.hr r hr).2.1⟩, A.flood⟩
  · obtain ⟨i, hi, rfl⟩ := mem y hy
    have C := (A.ni i hi).c
    have h1 := B.sent i hi
    rw [C.sent]
    refine ⟨by omega, ?_⟩
    have h2 := C.rdl
    have g := A.inv.gh i hi
    -- what is read is no longer than what the peer sent
    by_cases hm : ∃ p, w.mut i p
    · obtain ⟨p, m⟩ := hm
      have h3 := (C.pre p m).length_le
      have h4 := B.sent p m.hp
      omega
    · have := (A.inv.new i hi (fun p m => hm ⟨p, m⟩)).1
      rw [this] at h2
      have h2 : ((L i).rcvd.length : Int) = 0 := h2
      omega
  · obtain ⟨i, hi, rfl⟩ := mem y hy
    rw [hN, LL_len, (A.ni i hi).peer]
    by_cases hp : (w.N i).peer < 0
    · omega
    · have := A.inv.peer_lt (j := (w.N i).peer.toNat) hi (by omega)
      omega
end Go.Proofs.Qxb6500351aGreat
