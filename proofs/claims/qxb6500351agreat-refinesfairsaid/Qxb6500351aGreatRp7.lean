/- What the law sees of one row: what See's walk asks. -/
import Derived.Test.Qxb6500351aGreatRp6
set_option linter.unusedVariables false
set_option linter.unusedSimpArgs false
namespace Go.Proofs.Qxb6500351aGreat
open Go.Eng
def NPk (l : List Ned) : Prop := ∀ x ∈ l, x.peer < l.length ∧ (x.client = false → 0 ≤ x.peer)
theorem nFind_rng (l : List Ned) (h sd : Int) : nFind l h sd < 0 ∨ ∃ k : Nat, k < l.length ∧ nFind l h sd = (k : Int) := by
  unfold nFind
  split
  · exact .inl (by decide)
  · rename_i i hi
    rw [List.findIdx?_eq_some_iff_getElem] at hi
    exact .inr ⟨i, hi.1, rfl⟩
theorem nLatest_rng (l : List Ned) (h lp rh rp : Int) (c : Bool) : nLatest l h lp rh rp c < 0 ∨ ∃ k : Nat, k < l.length ∧ nLatest l h lp rh rp c = (k : Int) := by
  unfold nLatest
  split
  · exact .inl (by decide)
  · rename_i i hi
    rw [List.findIdx?_eq_some_iff_getElem] at hi
    have := hi.1
    rw [List.length_reverse] at this
    exact .inr ⟨l.length - 1 - i, by omega, by omega⟩
theorem nSee_h {l : List Ned} {dl : Nat → Int} {h : Int} {en : En} {ci : Ci} {l9 : List Ned} (hs : nSee l dl h en ci = some l9) : 0 ≤ h ∧ h < 3 := by
  unfold nSee at hs
  split at hs
  · cases hs
  · omega
theorem nSee_A {l : List Ned} {dl : Nat → Int} {h : Nat} {en : En} {ci : Ci} {l9 : List Ned} (hs : nSee l dl (h : Int) en ci = some l9) (hf : nFind l (h : Int) en.sd < 0) :
    (0 ≤ en.rHost - 1 ∧ en.rHost - 1 < 3) ∧ ¬ dl h = 0 ∧ ci.state = 2 ∧ ¬ en.parent = 0 ∧ en.ready = false ∧ 0 ≤ nLatest l (en.rHost - 1) en.rPort ((h : Int) + 1) en.lPort true ∧ l9 = l ++ [Ned.kid (h : Int) en (nLatest l (en.rHost - 1) en.rPort ((h : Int) + 1) en.lPort true)] := by
  unfold nSee at hs
  split at hs
  · cases hs
  · split at hs
    · cases hs
    · rename_i k
      split at hs
      · cases hs
      · rename_i k2
        injection hs with hs
        have kr : en.ready = false := by cases hq : en.ready with
          | false => rfl
          | true => exact absurd (.inr (.inr (.inr (.inr (.inr hq))))) k
        exact ⟨⟨by omega, by omega⟩, fun z => k (.inr (.inr (.inl z))), by omega, by omega, kr, by omega, hs.symm⟩
structure SeeB (l : List Ned) (dl : Nat → Int) (h : Nat) (en : En) (ci : Ci) (l9 : List Ned) (k : Nat) (pe : Int) (l1 l2 l3 l4 l5 : List Ned) : Prop where
  hk : k < l.length
  n1 : l1.length = l.length
  n2 : l2.length = l.length
  n3 : l3.length = l.length
  n4 : l4.length = l.length
  n5 : l5.length = l.length
  find : nFind l (h : Int) en.sd = (k : Int)
  gone : (l[k]).gone = false
  may : mayStep (l[k]).state ci.state = true
  why : ¬ ((l[k]).state = 4 ∧ ¬ (l[k]).why = ci.why ∧ ¬ ((l[k]).why = 0 ∧ ci.why = 20))
  op : ¬ (l[k]).state = 3 → ci.state = 3 → ¬ dl h = 0 ∧
    ((l[k]).client = true → ∃ p : Nat, ∃ hp : p < l.length, nLatest l ((l[k]).rHost - 1) (l[k]).rPort ((h : Int) + 1) (l[k]).lPort false = (p : Int) ∧ (l[p]).peer = (k : Int) ∧ pe = (p : Int)) ∧
    ((l[k]).client = false → ∃ p : Nat, ∃ hp : p < l.length, (l[k]).peer = (p : Int) ∧ (l[p]).peer = (k : Int) ∧ pe = (p : Int) ∧ l = l1)
  nop : ¬ (¬ (l[k]).state = 3 ∧ ci.state = 3) → l = l1
  e1 : l.set k { l[k] with peer := pe } = l1
  e2 : ∀ q : k < l1.length, l1.set k { l1[k] with state := ci.state } = l2
  e3 : ∀ q : k < l2.length, l2.set k { l2[k] with why := ci.why } = l3
  st : ∀ q : k < l3.length, (l3[k]).state = ci.state
  wo : ci.state = 3 → ∀ q : k < l3.length, l3.set k { l3[k] with wasOpen := true } = l4
  nwo : ¬ ci.state = 3 → l3 = l4
  par : ¬ en.parent = 0 → ∀ q : k < l4.length, en.ready = (l4[k]).wasOpen
  rc : ∀ q : k < l4.length, (l4[k]).rcvd = (l[k]).rcvd
  off : ∀ q : k < l4.length, (l4[k]).offered < (l4[k]).rcvd.length + ci.avail → l4.set k { l4[k] with offered := (l4[k]).rcvd.length + ci.avail } = l5
  noff : ∀ q : k < l4.length, ¬ (l4[k]).offered < (l4[k]).rcvd.length + ci.avail → l4 = l5
  chk : ∀ q : k < l5.length, 0 < (l5[k]).offered → ∃ p : Nat, ∃ hp : p < l5.length, (l5[k]).peer = (p : Int) ∧ (l5[k]).offered ≤ (l5[p]).sent.length
  fin : ∀ q : k < l5.length, ci.peerFin = true → (l5[k]).peerFin = false → (∃ p : Nat, ∃ hp : p < l5.length, (l5[k]).peer = (p : Int) ∧ (l5[p]).closed = true ∧ (l5[k]).offered = (l5[p]).sent.length) ∧ l5.set k { l5[k] with peerFin := true } = l9
  nfin : ∀ q : k < l5.length, ¬ (ci.peerFin = true ∧ (l5[k]).peerFin = false) → l5 = l9
theorem set_get {α : Type} {l : List α} {k : Nat} {x : α} (q : k < (l.set k x).length) : (l.set k x)[k] = x := List.getElem_set_self ..
theorem set_eq_self {l : List Ned} {k : Nat} (q : k < l.length) {x : Ned} (h : x = l[k]) : l = l.set k x := by subst h; exact (List.set_getElem_self q).symm
theorem set_set {α : Type} {l : List α} {k : Nat} {x y : α} : (l.set k x).set k y = l.set k y := List.set_set ..
theorem nSee_B {l : List Ned} {dl : Nat → Int} {h : Nat} {en : En} {ci : Ci} {l9 : List Ned} (hK : NPk l) (hs : nSee l dl (h : Int) en ci = some l9) (hf : ¬ nFind l (h : Int) en.sd < 0) :
    ∃ k pe l1 l2 l3 l4 l5, SeeB l dl h en ci l9 k pe l1 l2 l3 l4 l5 := by
  obtain ⟨k, hk, ek⟩ := (nFind_rng l h en.sd).resolve_left hf
  unfold nSee at hs
  split at hs
  · cases hs
  rw [ek] at hs
  simp only [Int.toNat_natCast, List.getElem?_eq_getElem hk] at hs
  split at hs
  · cases hs
  rename_i c1
  split at hs
  · cases hs
  rename_i pe hop
  have hn : ∀ x : Ned, (l.set k x).length = l.length := fun x => List.length_set ..
  -- the peer's place
  have OP : ¬ (l[k]).state = 3 → ci.state = 3 → ¬ dl h = 0 ∧
    ((l[k]).client = true → ∃ p : Nat, ∃ hp : p < l.length, nLatest l ((l[k]).rHost - 1) (l[k]).rPort ((h : Int) + 1) (l[k]).lPort false = (p : Int) ∧ (l[p]).peer = (k : Int) ∧ pe = (p : Int)) ∧
    ((l[k]).client = false → ∃ p : Nat, ∃ hp : p < l.length, (l[k]).peer = (p : Int) ∧ (l[p]).peer = (k : Int) ∧ pe = (p : Int) ∧ l = l.set k { l[k] with peer := pe }) := by
    intro s1 s2
    unfold nOpenTo at hop
    rw [if_pos ⟨s1, s2⟩] at hop
    split at hop
    · cases hop
    rename_i d1
    refine ⟨d1, fun hc => ?_, fun hc => ?_⟩
    · rw [if_pos hc] at hop
      split at hop
      · cases hop
      rename_i d2
      injection hop with hop
      rcases nLatest_rng l ((l[k]).rHost - 1) (l[k]).rPort ((h : Int) + 1) (l[k]).lPort false with z | ⟨p, hp, z⟩
      · exact absurd (.inl z) d2
      · refine ⟨p, hp, z, ?_, by rw [← hop, z]⟩
        have : nPeer l (nLatest l ((l[k]).rHost - 1) (l[k]).rPort ((h : Int) + 1) (l[k]).lPort false) = (k : Int) := by
          apply Decidable.byContradiction; intro y; exact d2 (.inr y)
        rw [z] at this
        unfold nPeer at this
        rw [Int.toNat_natCast, List.getElem?_eq_getElem hp] at this
        exact this
    · rw [if_neg (by rw [hc]; decide)] at hop
      split at hop
      · cases hop
      rename_i d2
      injection hop with hop
      have hb := hK _ (List.getElem_mem hk)
      have h0 := hb.2 hc
      refine ⟨(l[k]).peer.toNat, by omega, by omega, ?_, by omega, set_eq_self hk (by rw [← hop])⟩
      have : nPeer l (l[k]).peer = (k : Int) := by
        apply Decidable.byContradiction; intro y; exact d2 y
      unfold nPeer at this
      rw [List.getElem?_eq_getElem (by omega)] at this
      exact this
  have NOP : ¬ (¬ (l[k]).state = 3 ∧ ci.state = 3) → l = l.set k { l[k] with peer := pe } := by
    intro s
    unfold nOpenTo at hop
    rw [if_neg s] at hop
    injection hop with hop
    exact set_eq_self hk (by rw [← hop])
  split at hs
  · cases hs
  rename_i c2
  split at hs
  · cases hs
  rename_i c3
  have key : ∀ p : Int, 0 ≤ p → p < l.length → p.toNat < (l.set k ((l[k]).seen pe ci)).length := fun p h0 h1 => by rw [hn]; omega
  have peb : pe < l.length := by
    by_cases s : ¬ (l[k]).state = 3 ∧ ci.state = 3
    · obtain ⟨_, a, b⟩ := OP s.1 s.2
      cases hc : (l[k]).client with
      | true => obtain ⟨p, hp, _, _, e⟩ := a hc; omega
      | false => obtain ⟨p, hp, _, _, e, _⟩ := b hc; omega
    · unfold nOpenTo at hop
      rw [if_neg s] at hop
      injection hop with hop
      have := (hK _ (List.getElem_mem hk)).1
      omega
  refine ⟨k, pe, l.set k { l[k] with peer := pe }, l.set k { l[k] with peer := pe, state := ci.state }, l.set k { l[k] with peer := pe, state := ci.state, why := ci.why }, l.set k { l[k] with peer := pe, state := ci.state, why := ci.why, wasOpen := (l[k]).wasOpen || decide (ci.state = 3) }, l.set k ((l[k]).seen pe ci), ?_⟩
  refine ⟨hk, hn _, hn _, hn _, hn _, hn _, ek, ?_, ?_, ?_, OP, NOP, rfl, fun q => ?_, fun q => ?_, fun q => ?_, fun hc q => ?_, fun hc => ?_, fun hp q => ?_, fun q => ?_, fun q ho => ?_, fun q ho => ?_, fun q ho => ?_, fun q hp1 hp2 => ?_, fun q hp => ?_⟩
  · cases hg : (l[k]).gone with
    | false => rfl
    | true => exact absurd (.inl hg) c1
  · cases hg : mayStep (l[k]).state ci.state with
    | true => rfl
    | false => exact absurd (.inr (.inl hg)) c1
  · exact fun z => c1 (.inr (.inr z))
  · rw [set_get, set_set]
  · rw [set_get, set_set]
  · rw [set_get]
  · rw [set_get, set_set, decide_eq_true hc, Bool.or_true]
  · rw [decide_eq_false hc, Bool.or_false]
  · rw [set_get]
    apply Decidable.byContradiction
    intro y
    exact c2 ⟨hp, y⟩
  · rw [set_get]
  · rw [set_get] at ho
    rw [set_get, set_set]
    unfold Ned.seen
    rw [if_pos ho]
  · rw [set_get] at ho
    unfold Ned.seen
    rw [if_neg ho]
  · rw [set_get] at ho ⊢
    have h0 : 0 ≤ pe := by
      apply Decidable.byContradiction; intro y; exact c3 ⟨ho, .inl (by omega)⟩
    have hq := key pe h0 peb
    refine ⟨pe.toNat, hq, (by show pe = _; omega), ?_⟩
    have this : ¬ ((nSent (l.set k ((l[k]).seen pe ci)) pe).length : Int) < ((l[k]).seen pe ci).offered := fun y => c3 ⟨ho, .inr y⟩
    rw [nSent_at hq] at this
    omega
  · rw [set_get] at hp2 ⊢
    have hp3 : (l[k]).peerFin = false := hp2
    rw [if_pos ⟨hp1, hp3⟩] at hs
    split at hs
    · cases hs
    rename_i c4
    injection hs with hs
    have h0 : 0 ≤ pe := by
      apply Decidable.byContradiction; intro y; exact c4 (.inl (by omega))
    have hq := key pe h0 peb
    rw [nSent_at hq, nClosed_at hq] at c4
    refine ⟨⟨pe.toNat, hq, (by show pe = _; omega), ?_, ?_⟩, by rw [set_set]; exact hs⟩
    · cases hg : ((l.set k ((l[k]).seen pe ci))[pe.toNat]).closed with
      | true => rfl
      | false => exact absurd (.inr (.inl hg)) c4
    · apply Decidable.byContradiction; intro y; exact c4 (.inr (.inr y))
  · rw [set_get] at hp
    have hp3 : ¬ (ci.peerFin = true ∧ (l[k]).peerFin = false) := hp
    rw [if_neg hp3] at hs
    injection hs with hs
/-- peers stay in place -/
theorem nSee_NPk {l : List Ned} {dl : Nat → Int} {h : Nat} {en : En} {ci : Ci} {l9 : List Ned} (hK : NPk l) (hs : nSee l dl (h : Int) en ci = some l9) : NPk l9 := by
  by_cases hf : nFind l (h : Int) en.sd < 0
  · obtain ⟨_, _, _, _, _, a6, a7⟩ := nSee_A hs hf
    subst a7
    intro x hx
    rw [List.length_append, List.length_singleton]
    rcases List.mem_append.1 hx with q | q
    · have := hK x q; exact ⟨by omega, this.2⟩
    · rw [List.mem_singleton] at q
      subst q
      rcases nLatest_rng l (en.rHost - 1) en.rPort ((h : Int) + 1) en.lPort true with z | ⟨p, hp, z⟩
      · omega
      · exact ⟨by show nLatest l _ _ _ _ _ < _; omega, fun _ => by show 0 ≤ nLatest l _ _ _ _ _; omega⟩
  · obtain ⟨k, pe, l1, l2, l3, l4, l5, B⟩ := nSee_B hK hs hf
    have hk := B.hk
    have pk : pe < l.length ∧ ((l[k]).client = false → 0 ≤ pe) := by
      by_cases s : ¬ (l[k]).state = 3 ∧ ci.state = 3
      · obtain ⟨_, a, b⟩ := B.op s.1 s.2
        cases hc : (l[k]).client with
        | true => obtain ⟨p, hp, _, _, e⟩ := a hc; exact ⟨by omega, fun z => nomatch z⟩
        | false => obtain ⟨p, hp, _, _, e, _⟩ := b hc; exact ⟨by omega, fun _ => by omega⟩
      · have e := B.e1.trans (B.nop s).symm
        have e2 : (l.set k { l[k] with peer := pe })[k]'(by rw [List.length_set]; exact hk) = l[k] := by simp only [e]
        rw [set_get] at e2
        have e3 : pe = (l[k]).peer := congrArg Ned.peer e2
        have := hK _ (List.getElem_mem hk)
        exact ⟨by omega, fun z => by rw [e3]; exact this.2 z⟩
    -- every later list differs from l in its k-th place alone, whose peer is pe
    have fin : ∃ y : Ned, l9 = l.set k y ∧ y.peer = pe ∧ y.client = (l[k]).client := by
      have r1 : ∃ y : Ned, l1 = l.set k y ∧ y.peer = pe ∧ y.client = (l[k]).client := ⟨_, B.e1.symm, rfl, rfl⟩
      have nxt : ∀ {a b : List Ned} (f : Ned → Ned), (∀ z, (f z).peer = z.peer ∧ (f z).client = z.client) → (∃ y : Ned, a = l.set k y ∧ y.peer = pe ∧ y.client = (l[k]).client) → (∀ q : k < a.length, a.set k (f (a[k])) = b) → ∃ y : Ned, b = l.set k y ∧ y.peer = pe ∧ y.client = (l[k]).client := by
        rintro a b f hf ⟨y, rfl, y1, y2⟩ e
        have := e (by rw [List.length_set]; exact hk)
        rw [set_get, set_set] at this
        exact ⟨f y, this.symm, by rw [(hf y).1, y1], by rw [(hf y).2, y2]⟩
      have r2 := nxt (fun z => { z with state := ci.state }) (fun z => ⟨rfl, rfl⟩) r1 B.e2
      have r3 := nxt (fun z => { z with why := ci.why }) (fun z => ⟨rfl, rfl⟩) r2 B.e3
      have r4 : ∃ y : Ned, l4 = l.set k y ∧ y.peer = pe ∧ y.client = (l[k]).client := by
        by_cases s : ci.state = 3
        · exact nxt (fun z => { z with wasOpen := true }) (fun z => ⟨rfl, rfl⟩) r3 (B.wo s)
        · rw [← B.nwo s]; exact r3
      have q4 : k < l4.length := by rw [B.n4]; exact hk
      have r5 : ∃ y : Ned, l5 = l.set k y ∧ y.peer = pe ∧ y.client = (l[k]).client := by
        by_cases s : (l4[k]).offered < (l4[k]).rcvd.length + ci.avail
        · exact nxt (fun z => { z with offered := z.rcvd.length + ci.avail }) (fun z => ⟨rfl, rfl⟩) r4 (fun q => B.off q s)
        · rw [← B.noff q4 s]; exact r4
      have q5 : k < l5.length := by rw [B.n5]; exact hk
      by_cases s : ci.peerFin = true ∧ (l5[k]).peerFin = false
      · exact nxt (fun z => { z with peerFin := true }) (fun z => ⟨rfl, rfl⟩) r5 (fun q => (B.fin q s.1 s.2).2)
      · rw [← B.nfin q5 s]; exact r5
    obtain ⟨y, rfl, y1, y2⟩ := fin
    intro x hx
    rw [List.length_set]
    rcases List.mem_or_eq_of_mem_set hx with q | q
    · exact hK x q
    · subst q; rw [y1, y2]; exact pk
end Go.Proofs.Qxb6500351aGreat
