/- PLAIN LAW: THE REPOSITORY (7): MERGE. -/
import Derived.Test.Qxb6500350aGreatK73
import Derived.Test.Qxb6500350aGreatT65
import Derived.Test.Qxb6500350aGreatT66
set_option linter.unusedVariables false
set_option linter.unusedSimpArgs false
set_option maxHeartbeats 4000000
namespace Go.Proofs.Qxb6500350aGreat
open Go.Eng Go
/-- q is the base of a and b, or 0 -/
def BaseN (l : List Node) (a b q : Int) : Prop := (q = 0 ∧ ∀ x, x ∈ l → ¬ (AncN l [a] x.seq ∧ AncN l [b] x.seq)) ∨ ∃ x, x ∈ l ∧ q = x.seq ∧ AncN l [a] x.seq ∧ AncN l [b] x.seq ∧ ∀ z, z ∈ l → AncN l [a] z.seq → AncN l [b] z.seq → z.seq ≤ x.seq
theorem BaseN.uniq {l : List Node} {a b q p : Int} (h : BaseN l a b q) (k : BaseN l a b p) : q = p := by
  rcases h with ⟨rfl, h⟩ | ⟨x, hx, rfl, h1, h2, h3⟩
  · rcases k with ⟨rfl, _⟩ | ⟨y, hy, rfl, k1, k2, _⟩
    · rfl
    · exact absurd ⟨k1, k2⟩ (h y hy)
  · rcases k with ⟨rfl, k⟩ | ⟨y, hy, rfl, k1, k2, k3⟩
    · exact absurd ⟨h1, h2⟩ (k x hx)
    · have := h3 y hy k1 k2; have := k3 x hx h1 h2; omega
theorem ancN_le {l : List Node} (hw : WN l) {a q : Int} (h : AncN l [a] q) : q ≤ a := by
  refine h.least (U := fun q => q ≤ a) (fun x hx => ?_) (fun x y hy hxy => ?_)
  · rw [List.mem_singleton.1 hx.1]; exact Int.le_refl _
  · unfold parN at hxy
    cases e : findN l y with
    | none => rw [e] at hxy; cases hxy
    | some z =>
      rw [e] at hxy
      obtain ⟨h1, h2⟩ := findN_some e
      obtain ⟨w, _, h3, h4⟩ := hw.par z h1 x hxy
      omega
theorem BaseN.self {l : List Node} (hw : WN l) {a q : Int} (ha : ∃ x, x ∈ l ∧ x.seq = a) (h : BaseN l a a q) : q = a := by
  obtain ⟨y, hy, rfl⟩ := ha
  have hself : AncN l [y.seq] y.seq := .base ⟨by simp, y, hy, rfl⟩
  rcases h with ⟨_, h⟩ | ⟨x, hx, rfl, h1, _, h3⟩
  · exact absurd ⟨hself, hself⟩ (h y hy)
  · have := ancN_le hw h1
    have := h3 y hy hself hself
    omega
section
variable {n : Nat} {t0 t : Trees} {s0 s : Store} {d0 d : Dev} {g0 g : Graph} {x x0 x1 : Index} {r r0 : RepoR} {A0 A : Int → Ob} {root : Int} {ord0 ord : List Int} {K0 K : Int → CI} {bs0 bs : List Brn} {m0 m m1 : RepoM} {H : Hist}
theorem base_r {a b : Int} (hn : 100000 ≤ n) (h : Gm t s d g A root ord K bs H) (hw : WN H.nodes) (ha : ∃ x, x ∈ H.nodes ∧ x.seq = a) (hb : ∃ x, x ∈ H.nodes ∧ x.seq = b) : Ok (m149 n g a b) (fun p => p.2 = 0 ∧ BaseN H.nodes a b p.1) := by
  obtain ⟨i, hi, rfl⟩ := h.node.1 ha
  obtain ⟨j, hj, rfl⟩ := h.node.1 hb
  have ht := h.tab
  have hmb := mergeBase_ok hn ht.od ht.fam hi hj
  rw [ht.comseq hi, ht.comseq hj] at hmb
  have hn2 := h.nodes
  rw [hn2] at hw ⊢
  have br : ∀ k, k ∈ ord → ∀ y, y ∈ ord → (Anc (fun i => (K i).ps) (fun y => y = k) y ↔ AncN (ord.map (nodeOf K)) [(K k).seq] (K y).seq) := by
    intro k hk
    exact anc_bridge (fun i hi p hp => ((ht.ps i hi).2 p hp).1) (fun i j hi hj e => ht.inj hi hj e) (fun y e => by rw [e]; exact hk) (fun y hy => by rw [List.mem_singleton]; exact ⟨fun e => by rw [e], fun e => ht.inj hy hk e⟩) hw
  refine hmb.mono (fun p hp => ⟨hp.1, ?_⟩)
  rcases hp.2 with ⟨h1, h2⟩ | ⟨y, hy, h1, h2, h3, h4⟩
  · refine .inl ⟨h1, fun z hz hc => ?_⟩
    obtain ⟨k, hk, rfl⟩ := List.mem_map.1 hz
    exact h2 k ⟨(br i hi k hk).2 hc.1, (br j hj k hk).2 hc.2⟩
  · refine .inr ⟨nodeOf K y, List.mem_map_of_mem hy, by rw [h1, ht.comseq hy]; rfl, (br i hi y hy).1 h2, (br j hj y hy).1 h3, fun z hz hc1 hc2 => ?_⟩
    obtain ⟨k, hk, rfl⟩ := List.mem_map.1 hz
    have := h4 k ((br i hi k hk).2 hc1) ((br j hj k hk).2 hc2)
    rw [ht.comseq hk, ht.comseq hy] at this
    exact this
theorem mrgL_mode {b o t : List File} : ∀ (ps : List Str), (∀ f, f ∈ (mrgL n b o t ps).1 → f.mode = 0 ∨ (f.mode = 1 ∧ 0 < (mrgL n b o t ps).2))
  | [], f, hf => by simp [mrgL] at hf
  | p :: ps, f, hf => by
    have ih := mrgL_mode (b := b) (o := o) (t := t) ps
    have h1 := mrgP_c (n := n) (p := p) (a := datF b p) (b := datF o p) (c := datF t p)
    have h2 := mrgL_b (n := n) (b := b) (o := o) (t := t) ps
    have e1 : (mrgL n b o t (p :: ps)).1 = (mrgP n p (datF b p) (datF o p) (datF t p)).1.toList ++ (mrgL n b o t ps).1 := by unfold mrgL; simp
    have e2 : (mrgL n b o t (p :: ps)).2 = (mrgP n p (datF b p) (datF o p) (datF t p)).2 + (mrgL n b o t ps).2 := by unfold mrgL; simp
    rw [e1, List.mem_append] at hf
    rw [e2]
    rcases hf with hf | hf
    · unfold mrgP at hf ⊢
      split at hf
      · cases hd : datF o p with
        | none => rw [hd] at hf; cases hf
        | some d => rw [hd] at hf; rw [List.mem_singleton.1 hf]; exact .inl rfl
      · rename_i c1
        rw [if_neg c1]
        split at hf
        · cases hd : datF t p with
          | none => rw [hd] at hf; cases hf
          | some d => rw [hd] at hf; rw [List.mem_singleton.1 hf]; exact .inl rfl
        · rename_i c2
          rw [if_neg c2]
          split at hf
          · rw [List.mem_singleton.1 hf]; exact .inl rfl
          · rename_i c3
            rw [if_neg c3, List.mem_singleton.1 hf]
            exact .inr ⟨rfl, by show (0 : Int) < 1 + _; omega⟩
    · rcases ih f hf with h | ⟨h, h'⟩
      · exact .inl h
      · exact .inr ⟨h, by omega⟩
/-- how Merge answers -/
def MOut (n : Nat) (m0 : RepoM) (d0 : Dev) (A0 : Int → Ob) (root : Int) (ord0 : List Int) (K0 : Int → CI) (bs0 : List Brn) (qm : Int × Int × RepoM) (q : Int × Int × RepoR × Engine × Graph × Trees × Store × Dev × Index) : Prop :=
  ((q.2.1 = 5 ∧ q.1 = 0) ∨ (q.1 = qm.1 ∧ q.2.1 = qm.2.1 ∧ q.2.1 ≠ 5)) ∧ Bnd m0 qm.2.2 ∧ Out m0 d0 A0 root ord0 K0 bs0 q.2.2.2.2.2.1 q.2.2.2.2.2.2.1 q.2.2.2.2.2.2.2.1 q.2.2.2.2.1 q.2.2.2.2.2.2.2.2 q.2.2.1 qm.2.2 q.2.1
/-- the model behind a fast forward -/
def ffM (m : RepoM) (th : Int) : RepoM := { m with room := m.room - (cost (snapN m.nodes th) + 1), refs := mvR m.refs m.head th, head := mvH m.head th, index := snapN m.nodes th, work := snapN m.nodes th }
/-- the model behind a merge with conflicts -/
def cfM (m : RepoM) (th : Int) (l : List File) : RepoM := { m with room := m.room - (cost l + 1), head := { m.head with merge := th }, index := l, work := plainF l }
/-- the model behind a merge -/
def mgM (m : RepoM) (th : Int) (l : List File) : RepoM := { m with room := m.room - (2 * cost l + 2), nxt := m.nxt + 1, nodes := m.nodes ++ [{ seq := m.nxt, files := l, parents := [atM m, th], msg := [109, 101, 114, 103, 101] }], refs := mvR m.refs m.head m.nxt, head := mvH m.head m.nxt, index := l, work := l }
theorem born {m : RepoM} (hm : MI m) : m.head.name ≠ [] → goodN m.head.name = true ∧ (findR m.refs m.head.name ≠ none ∨ m.refs.length < 4) := by
  intro e
  rcases hm.hd with ⟨_, h2, _⟩ | ⟨h1, _⟩
  · refine ⟨h2, ?_⟩
    by_cases e3 : findR m.refs m.head.name = none
    · right
      have := hm.ub e e3
      rw [this]; decide
    · exact .inl e3
  · exact absurd h1 e
theorem forward_ok {th : Int} (hn : 100010 ≤ n) (h : Sys t0 s0 d0 g0 x0 r0 A0 root ord0 K0 bs0 m0) (hm : MI m0) (hlax : m0.lax = true) (hd0 : d0.at_.length ≤ 1000) (hth : ∃ y, y ∈ m0.nodes ∧ y.seq = th) (hmg : m0.head.merge = 0) :
    Ok (m150 n r0 g0 t0 s0 d0 x0 m0.head th (snapN m0.nodes th)) (fun p => (p.1 = 0 ∨ p.1 = 5) ∧ Bnd m0 (ffM m0 th) ∧ Out m0 d0 A0 root ord0 K0 bs0 p.2.2.2.1 p.2.2.2.2.1 p.2.2.2.2.2.1 p.2.2.1 p.2.2.2.2.2.2 p.2.1 (ffM m0 th) p.1) := by
  have hs := (hm.snap th).1
  have hsm := (hm.snap th).2
  have hcr := cost_rng hs
  have hgm := h.gr.toGm
  have hth2 : ∃ i, i ∈ ord0 ∧ (K0 i).seq = th := hgm.node.1 hth
  have hb : Bnd m0 (ffM m0 th) := ⟨hlax, .inl (by show m0.room - 300 ≤ m0.room - (cost _ + 1); omega), .inl (by show m0.room - (cost _ + 1) ≤ m0.room; omega), by show m0.nxt ≤ m0.nxt + 1; omega⟩
  have hroom : m0.room - (ffM m0 th).room = cost (snapN m0.nodes th) + 1 := by show m0.room - (m0.room - _) = _; omega
  have start : Ok (cond (decide (m0.head.name = [])) (ob2 (m153 n g0 ({ Head.zero with seq := th })) fun c2 z2 => some (c2, z2)) (ob2 (m139 n g0 m0.head.name th) fun c3 z3 => some (c3, z3))) (fun p => p.1 = 0 ∧ ∃ bs', Gm t0 s0 d0 p.2 A0 root ord0 K0 bs' { histOf m0 with refs := mvR m0.refs m0.head th, head := mvH m0.head th }) := by
    refine Ok_ite (fun e => ?_) (fun e => ?_)
    · refine Ok_ob2 ((gsetHead_ok (hd := { Head.zero with seq := th }) (show 100000 ≤ n by omega) hgm (fun h => absurd rfl h) (fun _ => hth2) (fun h => absurd rfl h)).mono (fun p hp => Ok.some' ⟨hp.1, bs0, ?_⟩))
      have : ({ histOf m0 with refs := mvR m0.refs m0.head th, head := mvH m0.head th } : Hist) = { histOf m0 with head := { name := [], seq := th, merge := 0 } } := by
        unfold mvR mvH; rw [if_pos e, if_pos e]; rfl
      rw [this]; exact hp.2
    · obtain ⟨g1, g2⟩ := born hm e
      refine Ok_ob2 ((gsetBranch_ok (q := th) (show 100000 ≤ n by omega) hgm g1 hth2 g2).mono (fun p hp => Ok.some' ⟨hp.1, ?_⟩))
      obtain ⟨bs', hp2⟩ := hp.2
      refine ⟨bs', ?_⟩
      have : ({ histOf m0 with refs := mvR m0.refs m0.head th, head := mvH m0.head th } : Hist) = { histOf m0 with refs := withR m0.refs m0.head.name th } := by
        unfold mvR mvH
        rw [if_neg e, if_neg e]
        rcases hm.hd with ⟨_, _, h3⟩ | ⟨h1, _⟩
        · have : ({ name := m0.head.name, seq := 0, merge := 0 } : Head) = m0.head := by
            cases hh : m0.head; rw [hh] at h3 hmg; simp at h3 hmg; simp [h3, hmg]
          rw [this]; rfl
        · exact absurd h1 e
      rw [this]; exact hp2
  unfold m150
  refine Ok_ob2 (start.mono (fun p hp => ?_))
  obtain ⟨p1, bs', p2⟩ := hp
  rw [p1]
  refine Ok_ite (fun h => absurd rfl h) (fun _ => Ok_ob6 ((seal_ok (r := r0) (x := x0) hn h.gr hd0 p2 (.refl hgm.lt.gd) hs).mono (fun u hu => ?_)))
  rcases hu with ⟨q1, q2, q3⟩ | ⟨q1, q2, A', root', q3, q4, q5⟩
  · rw [q1]
    exact Ok_ite (fun _ => Ok.some' ⟨.inr rfl, hb, .full rfl q3 h.wk (by rw [hroom]; exact q2)⟩) (fun e => absurd (show ¬ ((5 : Int) = 0) by decide) e)
  · rw [q1, q2]
    refine Ok_ite (fun e => absurd rfl e) (fun _ => Ok_ob2 ((take_ok (r := r0) (x := x0) (show 100000 ≤ n by omega) hs).mono (fun v hv => Ok.some' ⟨.inl rfl, hb, ?_⟩)))
    rw [plainF_id hsm] at hv
    have q3' : Gr u.2.2.1 u.2.2.2.1 u.2.2.2.2.1 u.2.1 A' root' ord0 K0 bs' (histOf (ffM m0 th)) := q3
    exact .went (by show (0 : Int) ≠ 5; decide) (mi_of q3'.toGm (fun y hy => (hm.law y hy).2) (fun e => absurd (mvH_merge m0.head th) e) mv_ub (fun f hf => .inl (hsm f hf)) hs hsm) ⟨A', root', ord0, K0, bs', ⟨q3', hv.2, hv.1⟩, .inr q4, by rw [hroom]; omega⟩
end
end Go.Proofs.Qxb6500350aGreat
