/- Copies of rows that may be nil; the network's growth. MADE BY PROGRAM (tools/mkrp3.py). -/
import Derived.Test.Qxb6500351aGreatW55
set_option linter.unusedVariables false
set_option linter.unusedSimpArgs false
namespace Go.Proofs.Qxb6500351aGreat
open Go.Eng
theorem t78g (v : Value) (l : List Int) (g : List Chunk) (h : Byt v l g) : Trip Tryz.prog 78 #[v] [g] (fun u S' => ∃ b2, u = byV b2 l ∧ S' = [g, byG b2 l 5]) := by
  rcases h with ⟨rfl, rfl, rfl⟩ | ⟨b, o, n, cap, cs, e, rfl, rfl, hy⟩
  · exact t78z
  · exact t78 _ _ _ _ _ _ _ hy
def nCan (l : List Ned) (h : Int) (en : En) (ci : Ci) : Bool := decide (nFind l h en.sd < 0) && decide (ci.state = 1)
def Ned.conn (h : Int) (en : En) : Ned := ⟨h, en.sd, en.lPort, en.rHost, en.rPort, true, -1, [], [], 0, 1, 0, false, false, false, false⟩
def Ned.kid (h : Int) (en : En) (p : Int) : Ned := ⟨h, en.sd, en.lPort, en.rHost, en.rPort, false, p, [], [], 0, 2, 0, false, false, false, false⟩
def nConn (l : List Ned) (h : Int) (en : En) (ci : Ci) : List Ned := if nCan l h en ci = true then l ++ [Ned.conn h en] else l
def nTook (l : List Ned) (i k : Int) (d : List Int) : Bool := match l[i.toNat]? with
  | none => false
  | some x => decide (0 ≤ i) && decide (0 ≤ k) && decide (k ≤ d.length) && !x.closed && decide (x.state = 3)
theorem nTook_at {l : List Ned} {k : Nat} (hk : k < l.length) (n : Int) (d : List Int) : nTook l k n d = (decide (0 ≤ n) && decide (n ≤ d.length) && !l[k].closed && decide (l[k].state = 3)) := by
  unfold nTook; rw [Int.toNat_natCast, List.getElem?_eq_getElem hk]; dsimp only; rw [decide_eq_true (by omega), Bool.true_and]
theorem nTook_no {l : List Ned} {i : Int} (h : nHas l i = false) (n : Int) (d : List Int) : nTook l i n d = false := by
  unfold nTook
  split
  · rfl
  · next x hx => rw [decide_eq_false (by have := nHas_not h x hx; omega)]; simp
def nTaken (l : List Ned) (i k : Int) (d : List Int) : List Ned := if nTook l i k d = true then nUpd l i (fun x => { x with sent := x.sent ++ d.take k.toNat }) else l
/-- a read's new list, and what it answers -/
def nReadL (l : List Ned) (i : Int) (d : List Int) : List Ned := nUpd l i (fun x => { x with rcvd := x.rcvd ++ d })
def nPeer (l : List Ned) (i : Int) : Int := match l[i.toNat]? with
  | none => -1
  | some x => x.peer
def nSent (l : List Ned) (i : Int) : List Int := match l[i.toNat]? with
  | none => []
  | some x => x.sent
def nRcvd (l : List Ned) (i : Int) : List Int := match l[i.toNat]? with
  | none => []
  | some x => x.rcvd
def nClosed (l : List Ned) (i : Int) : Bool := match l[i.toNat]? with
  | none => false
  | some x => x.closed
def nEOF (l : List Ned) (i : Int) : Bool := nHas l i && decide (0 ≤ nPeer l i) && nClosed l (nPeer l i) && decide (nRcvd l i = nSent l (nPeer l i))
def Cut2 (cur : Array Value) (l : List Ned) (i : Int) (vr vs : Value) (gr gs : List Chunk) : Prop := ∀ k, i = ((k : Nat) : Int) → ∀ hk : k < l.length, GB vr l[k].rcvd gr ∧ (∀ o, o = 0 + k * 16 + 8 → cur[o]? = some vr) ∧
  ∀ hp : l[k].peer.toNat < l.length, 0 ≤ l[k].peer → GB vs (l[l[k].peer.toNat]).sent gs ∧ (∀ o, o = 0 + l[k].peer.toNat * 16 + 7 → cur[o]? = some vs)
theorem perm_pair (G : List (List Chunk × List Chunk)) : ((G.map fun x => x.1 ++ x.2).flatten).Perm ((G.map Prod.fst).flatten ++ (G.map Prod.snd).flatten) := by
  induction G with
  | nil => exact List.Perm.refl _
  | cons a r ih =>
    simp only [List.map_cons, List.flatten_cons]
    refine (List.Perm.append_left _ ih).trans ?_
    simp only [List.append_assoc]
    refine List.Perm.append_left _ ?_
    rw [← List.append_assoc, ← List.append_assoc]
    exact List.Perm.append_right _ List.perm_append_comm
theorem perm_pick {G : List (List Chunk)} {k : Nat} (hk : k < G.length) : G.flatten.Perm (G[k] ++ (G.take k ++ G.drop (k + 1)).flatten) := by
  have h1 : G = G.take k ++ (G[k] :: G.drop (k + 1)) := by rw [← List.drop_eq_getElem_cons hk, List.take_append_drop]
  have h2 : G.flatten = (G.take k).flatten ++ (G[k] ++ (G.drop (k + 1)).flatten) := by
    have := congrArg List.flatten h1
    rw [List.flatten_append, List.flatten_cons] at this
    exact this
  rw [h2, List.flatten_append, ← List.append_assoc, ← List.append_assoc]
  exact List.Perm.append_right _ List.perm_append_comm
theorem ends_groups {b cap : Nat} {cur : Array Value} {l : List Ned} {gd : List Chunk} (h : EdO b cap cur l gd) :
    ∃ G : List (List Chunk × List Chunk), G.length = l.length ∧ gd = (G.map fun x => x.1 ++ x.2).flatten ∧ ∀ k (hk : k < l.length) (hg : k < G.length), ∃ vs vr, GB vs l[k].sent G[k].1 ∧ GB vr l[k].rcvd G[k].2 ∧
      (∀ o, o = 0 + k * 16 + 7 → cur[o]? = some vs) ∧ (∀ o, o = 0 + k * 16 + 8 → cur[o]? = some vr) := by
  have key : ∀ (l : List Ned) (xs : List Value) (gd : List Chunk), Elems 16 edR xs l gd → ∃ G : List (List Chunk × List Chunk), G.length = l.length ∧ gd = (G.map fun x => x.1 ++ x.2).flatten ∧ ∀ k (hk : k < l.length) (hg : k < G.length), ∃ vs vr, GB vs l[k].sent G[k].1 ∧ GB vr l[k].rcvd G[k].2 ∧ xs[k * 16 + 7]? = some vs ∧ xs[k * 16 + 8]? = some vr := by
    intro l
    induction l with
    | nil => rintro xs gd ⟨rfl, rfl⟩; exact ⟨[], rfl, rfl, fun k hk => absurd hk (by simp)⟩
    | cons a r ih =>
      rintro xs gd he
      obtain ⟨pa, x, pb, ga, g1, gb, h1, h2, h3, h4, h5, h6, h7⟩ := he.get 0 (by simp)
      obtain ⟨G, e1, e2, e3⟩ := ih pb gb (by simpa using h7)
      have hpa : pa = [] := List.eq_nil_of_length_eq_zero (by omega)
      have hga : ga = [] := by
        subst hpa
        have := h6
        simp only [List.take_zero] at this
        exact this.2
      subst hpa hga
      obtain ⟨vs, vr, gs, gr, hx, hg, hs, hr⟩ := h4
      refine ⟨(gs, gr) :: G, by simp [e1], by rw [h5, hg, e2]; simp, ?_⟩
      intro k hk hg'
      cases k with
      | zero => exact ⟨vs, vr, hs, hr, by rw [h1, hx]; rfl, by rw [h1, hx]; rfl⟩
      | succ k =>
        obtain ⟨vs', vr', q1, q2, q3, q4⟩ := e3 k (by simpa using hk) (by simpa using hg')
        refine ⟨vs', vr', q1, q2, ?_, ?_⟩
        · rw [h1, List.nil_append, List.getElem?_append_right (by omega), h3]; have e : (k + 1) * 16 + 7 - 16 = k * 16 + 7 := by omega
          rw [e]; exact q3
        · rw [h1, List.nil_append, List.getElem?_append_right (by omega), h3]; have e : (k + 1) * 16 + 8 - 16 = k * 16 + 8 := by omega
          rw [e]; exact q4
  obtain ⟨G, e1, e2, e3⟩ := key l _ gd h.ex
  refine ⟨G, e1, e2, fun k hk hg => ?_⟩
  obtain ⟨vs, vr, q1, q2, q3, q4⟩ := e3 k hk hg
  refine ⟨vs, vr, q1, q2, fun o ho => ?_, fun o ho => ?_⟩
  · subst ho; rw [Nat.zero_add]; exact vec_get rfl q3
  · subst ho; rw [Nat.zero_add]; exact vec_get rfl q4
theorem perm4 {A B x rx y ry g : List Chunk} (h : g.Perm (A ++ B)) (h1 : A.Perm (x ++ rx)) (h2 : B.Perm (y ++ ry)) : g.Perm (y ++ (x ++ (rx ++ ry))) := by
  refine h.trans ((List.Perm.append h1 h2).trans ?_)
  refine List.perm_append_comm.trans ?_
  simp only [List.append_assoc]
  refine List.Perm.append_left _ ?_
  refine List.perm_append_comm.trans ?_
  simp only [List.append_assoc]
  exact List.Perm.refl _
theorem cut2_ex {b cap : Nat} {cur : Array Value} {l : List Ned} {gd : List Chunk} (h : EdO b cap cur l gd) (i : Int) : ∃ vr vs gr gs rest, gd.Perm (gr ++ (gs ++ rest)) ∧ Cut2 cur l i vr vs gr gs := by
  obtain ⟨G, e1, e2, e3⟩ := ends_groups h
  by_cases hi : 0 ≤ i ∧ i.toNat < l.length
  · obtain ⟨hi0, hi1⟩ := hi
    obtain ⟨k, rfl⟩ : ∃ k : Nat, i = (k : Int) := ⟨i.toNat, by omega⟩
    rw [Int.toNat_natCast] at hi1
    obtain ⟨vs0, vr, q1, q2, q3, q4⟩ := e3 k hi1 (by omega)
    have p1 := perm_pair G
    have p2 := perm_pick (G := G.map Prod.snd) (k := k) (by simp; omega)
    by_cases hp : (l[k]).peer.toNat < l.length ∧ 0 ≤ (l[k]).peer
    · obtain ⟨vs, vr0, r1, r2, r3, r4⟩ := e3 _ hp.1 (by omega)
      have p3 := perm_pick (G := G.map Prod.fst) (k := (l[k]).peer.toNat) (by simp; omega)
      simp only [List.getElem_map] at p2 p3
      refine ⟨vr, vs, _, _, _, e2 ▸ perm4 p1 p3 p2, ?_⟩
      intro k' hk' hkl
      obtain rfl : k = k' := by omega
      exact ⟨q2, q4, fun _ _ => ⟨r1, r3⟩⟩
    · simp only [List.getElem_map] at p2
      refine ⟨vr, vr, _, [], _, e2 ▸ perm4 (x := []) p1 (List.Perm.refl _) p2, ?_⟩
      intro k' hk' hkl
      obtain rfl : k = k' := by omega
      exact ⟨q2, q4, fun h1 h2 => absurd ⟨h1, h2⟩ hp⟩
  · refine ⟨.bool false, .bool false, [], [], gd, List.Perm.refl _, ?_⟩
    rintro k rfl hk
    exact absurd ⟨by omega, by omega⟩ hi
theorem nPeer_at {l : List Ned} {k : Nat} (hk : k < l.length) : nPeer l k = l[k].peer := by unfold nPeer; rw [Int.toNat_natCast, List.getElem?_eq_getElem hk]
theorem nRcvd_at {l : List Ned} {k : Nat} (hk : k < l.length) : nRcvd l k = l[k].rcvd := by unfold nRcvd; rw [Int.toNat_natCast, List.getElem?_eq_getElem hk]
theorem nSent_at {l : List Ned} {p : Int} (hk : p.toNat < l.length) : nSent l p = (l[p.toNat]).sent := by unfold nSent; rw [List.getElem?_eq_getElem hk]
theorem nClosed_at {l : List Ned} {p : Int} (hk : p.toNat < l.length) : nClosed l p = (l[p.toNat]).closed := by unfold nClosed; rw [List.getElem?_eq_getElem hk]
end Go.Proofs.Qxb6500351aGreat
