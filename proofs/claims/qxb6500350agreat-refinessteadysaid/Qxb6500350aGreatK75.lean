/- PLAIN LAW: THE REPOSITORY (8): MERGE, WHOLE. -/
import Derived.Test.Qxb6500350aGreatK74
set_option linter.unusedVariables false
set_option linter.unusedSimpArgs false
set_option maxHeartbeats 4000000
namespace Go.Proofs.Qxb6500350aGreat
open Go.Eng Go
section
variable {n : Nat} {t0 t : Trees} {s0 s : Store} {d0 d : Dev} {g0 g : Graph} {x x0 x1 : Index} {r r0 : RepoR} {A0 A : Int → Ob} {root : Int} {ord0 ord : List Int} {K0 K : Int → CI} {bs0 bs : List Brn} {m0 m m1 : RepoM} {H : Hist} {e0 : Engine}
/-- the end of a merge in the model -/
theorem ends_m {th : Int} {l : List File} {k : Int} (hn : 100010 ≤ n) (hm : MI m0) (hlax : m0.lax = true) (hrm : -1152921504606846976 ≤ m0.room ∧ m0.room ≤ 48) (hnx : m0.nxt < 1152921504606846976) (hl : Law l) (hk : 0 ≤ k) :
    Ok (cond (decide ((0 : Int) < k)) (
      ob1 (m124 n l) fun c10 =>
      ob2 (m125 n m0 (wi (c10 + 1))) fun c11 z6 =>
      cond (!c11) (
      some ((0 : Int), (5 : Int), z6)) (
      nm ({ z6 with head := { z6.head with merge := th } } : RepoM) fun z7 =>
      nm ({ z7 with index := l } : RepoM) fun z8 =>
      ob1 (m71 n l) fun l8 =>
      nm ({ z8 with work := l8 } : RepoM) fun z9 =>
      some (k, (0 : Int), z9))) (
      cond (decide ((40 : Int) ≤ (m0.nodes.length : Int))) (
      some ((0 : Int), (8 : Int), m0)) (
      ob1 (m124 n l) fun c12 =>
      ob2 (m125 n m0 (wi ((wi (2 * c12)) + 2))) fun c13 z10 =>
      cond (!c13) (
      some ((0 : Int), (5 : Int), z10)) (
      nm ({ z10 with nxt := (wi (z10.nxt + 1)) } : RepoM) fun z11 =>
      ob1 (m27 n l) fun l9 =>
      Option.bind (apd z11.nodes ({ seq := z10.nxt, files := l9, parents := ([atM m0, th] : List Int), msg := [109, 101, 114, 103, 101] } : Node)) fun l10 =>
      nm ({ z11 with nodes := l10 } : RepoM) fun z12 =>
      ob1 (m135 n z12 z10.nxt) fun z13 =>
      nm ({ z13 with index := l } : RepoM) fun z14 =>
      ob1 (m27 n l) fun l11 =>
      nm ({ z14 with work := l11 } : RepoM) fun z15 =>
      some ((0 : Int), (0 : Int), z15))))) (fun v => v = if 0 < k then (k, 0, cfM m0 th l) else if 40 ≤ m0.nodes.length then (0, 8, m0) else (0, 0, mgM m0 th l)) := by
  have hcr := cost_rng hl
  have hnum := hl.num
  have hnn := hm.wn.len
  have hrl := hm.rl
  have hnx1 := hm.nx
  refine Ok_ite (fun hpos => ?_) (fun hz => ?_)
  · rw [if_pos hpos]
    refine Ok_cl1 (cost_ok (by omega) hl) ?_
    rw [wi_e (x := cost l + 1) (by omega) (by omega)]
    refine Ok_cl2 (pay_m hlax) ?_
    rw [wi_e (x := m0.room - (cost l + 1)) (by omega) (by omega)]
    exact Ok_cond (fun e => nomatch e) (fun _ => Ok_nm (Ok_nm (Ok_cl1 (plain_ok (by omega) (by omega)) (Ok_nm (Ok.some' rfl)))))
  · rw [if_neg hz]
    refine Ok_ite (fun h40 => Ok.some' (by rw [if_pos (by omega)])) (fun h40 => ?_)
    rw [if_neg (by omega)]
    refine Ok_cl1 (cost_ok (by omega) hl) ?_
    rw [wi_e (x := 2 * cost l) (by omega) (by omega), wi_e (x := 2 * cost l + 2) (by omega) (by omega)]
    refine Ok_cl2 (pay_m hlax) ?_
    rw [wi_e (x := m0.room - (2 * cost l + 2)) (by omega) (by omega)]
    refine Ok_cond (fun e => nomatch e) (fun _ => Ok_nmz (fun z11 hz11 => ?_))
    have e2 : z11.nodes = m0.nodes := by rw [hz11]
    rw [e2]
    refine Ok_cl1 (copyFiles_ok (by omega) (by omega)) (Ok_apd (by omega) (Ok_nmz (fun z12 hz12 => ?_)))
    have e3 : z12.refs = m0.refs := by rw [hz12, hz11]
    have e4 : z12.head = m0.head := by rw [hz12, hz11]
    refine Ok_cl1 (move_m (by omega) (by rw [e3]; omega)) (Ok_nm (Ok_cl1 (copyFiles_ok (by omega) (by omega)) (Ok_nm (Ok.some' ?_))))
    rw [moveH_eq]
    show ((0 : Int), (0 : Int), ({ z12 with refs := mvR z12.refs z12.head m0.nxt, head := mvH z12.head m0.nxt, index := l, work := l } : RepoM)) = _
    rw [e3, e4, hz12, hz11]
    show ((0 : Int), (0 : Int), ({ m0 with room := _, nxt := wi (m0.nxt + 1), nodes := _, refs := _, head := _, index := _, work := _ } : RepoM)) = _
    rw [wi_e (x := m0.nxt + 1) (by omega) (by omega)]
    rfl
/-- the end of a merge -/
theorem ends_r {th : Int} {l : List File} {k : Int} (hn : 100010 ≤ n) (h : Sys t0 s0 d0 g0 x0 r0 A0 root ord0 K0 bs0 m0) (hm : MI m0) (hlax : m0.lax = true) (hd0 : d0.at_.length ≤ 1000) (hnx : m0.nxt < 1152921504606846976) (hl : Law l) (hk : 0 ≤ k) (hmd : ∀ f, f ∈ l → f.mode = 0 ∨ (f.mode = 1 ∧ 0 < k)) (hth : ∃ y, y ∈ m0.nodes ∧ y.seq = th) (hat0 : atM m0 ≠ 0) (hne : atM m0 ≠ th) :
    Ok (ob5 (cond (decide ((0 : Int) < k)) (
        ob2 (m153 n g0 ({ name := m0.head.name, seq := m0.head.seq, merge := th } : Head)) fun c12 z13 =>
        some (c12, z13, t0, s0, d0)) (
        ob5 (m154 n r0 g0 t0 s0 d0 m0.head l (atM m0) th) fun c13 z14 z15 z16 z17 =>
        some (c13, z14, z15, z16, z17))) fun c11 z9 z10 z11 z12 =>
        cond (decide (¬ (c11 = 0))) (
        ob5 (m131 n r0 z9 z10 z11 z12 x0 c11) fun c14 z18 z19 z20 z21 =>
        some ((0 : Int), c14, r0, e0, z18, z19, z20, z12, z21)) (
        ob6 (m123 n r0 z9 z10 z11 z12 x0 l) fun c15 z22 z23 z24 z25 z26 =>
        cond (decide (¬ (c15 = 0))) (
        some ((0 : Int), c15, r0, e0, z22, z23, z24, z25, z26)) (
        ob2 (m155 n r0 z26 l) fun z27 z28 =>
        some (k, (0 : Int), z27, e0, z22, z23, z24, z25, z28)))) (fun q => MOut n m0 d0 A0 root ord0 K0 bs0 (if 0 < k then (k, 0, cfM m0 th l) else if 40 ≤ m0.nodes.length then (0, 8, m0) else (0, 0, mgM m0 th l)) q) := by
  have hgm := h.gr.toGm
  have hcr := cost_rng hl
  have hth2 : ∃ i, i ∈ ord0 ∧ (K0 i).seq = th := hgm.node.1 hth
  have hplain := plainF_law hl
  have hth1 : 1 ≤ th := by obtain ⟨y, hy, rfl⟩ := hth; exact (hm.sq y hy).1
  refine Ok_ob5 (Ok_ite (fun hpos => ?_) (fun hz => ?_))
  · -- conflicts
    rw [if_pos hpos]
    have hb : Bnd m0 (cfM m0 th l) := ⟨hlax, .inl (by show m0.room - 300 ≤ m0.room - (cost _ + 1); omega), .inl (by show m0.room - (cost _ + 1) ≤ m0.room; omega), by show m0.nxt ≤ m0.nxt + 1; omega⟩
    have hroom : m0.room - (cfM m0 th l).room = cost l + 1 := by show m0.room - (m0.room - _) = _; omega
    have hseq : ({ name := m0.head.name, seq := if m0.head.name = [] then m0.head.seq else 0, merge := th } : Head) = { m0.head with merge := th } := by
      rcases hm.hd with ⟨h1, _, h3⟩ | ⟨h1, _⟩
      · rw [if_neg h1, ← h3]
      · rw [if_pos h1]
    refine Ok_ob2 ((gsetHead_ok (hd := { name := m0.head.name, seq := m0.head.seq, merge := th }) (show 100000 ≤ n by omega) hgm (fun h1 => (born hm h1).1) (fun h1 => by rcases hm.hd with h2 | h2; exact absurd h1 h2.1; exact hgm.node.1 h2.2) (fun _ => hth2)).mono (fun p hp => Ok.some' ?_))
    obtain ⟨p1, p2⟩ := hp
    have p2 : Gm t0 s0 d0 p.2 A0 root ord0 K0 bs0 { histOf m0 with head := { name := m0.head.name, seq := if m0.head.name = [] then m0.head.seq else 0, merge := th } } := p2
    rw [hseq] at p2
    rw [p1]
    refine Ok_ite (fun h => absurd rfl h) (fun _ => Ok_ob6 ((seal_ok (r := r0) (x := x0) hn h.gr hd0 p2 (.refl hgm.lt.gd) hl).mono (fun u hu => ?_)))
    rcases hu with ⟨q1, q2, q3⟩ | ⟨q1, q2, A', root', q3, q4, q5⟩
    · rw [q1]
      exact Ok_ite (fun _ => Ok.some' ⟨.inl ⟨rfl, rfl⟩, hb, .full rfl q3 h.wk (by rw [hroom]; exact q2)⟩) (fun e => absurd (show ¬ ((5 : Int) = 0) by decide) e)
    · rw [q1, q2]
      refine Ok_ite (fun e => absurd rfl e) (fun _ => Ok_ob2 ((take_ok (r := r0) (x := x0) (show 100000 ≤ n by omega) hl).mono (fun v hv => Ok.some' ⟨.inr ⟨rfl, rfl, by show (0 : Int) ≠ 5; decide⟩, hb, ?_⟩)))
      have q3' : Gr u.2.2.1 u.2.2.2.1 u.2.2.2.2.1 u.2.1 A' root' ord0 K0 bs0 (histOf (cfM m0 th l)) := q3
      have hat : atM (cfM m0 th l) = atM m0 := rfl
      exact .went (by show (0 : Int) ≠ 5; decide) (mi_of q3'.toGm (fun y hy => (hm.law y hy).2) (fun _ => ⟨by rw [hat]; exact hat0, by rw [hat]; exact hne⟩) hm.ub (fun f hf => (hmd f hf).imp id (fun h => ⟨h.1, by show th ≠ 0; omega⟩)) hplain.1 hplain.2) ⟨A', root', ord0, K0, bs0, ⟨q3', hv.2, hv.1⟩, .inr q4, by rw [hroom]; omega⟩
  · -- none
    rw [if_neg hz]
    have hm0 : ∀ f, f ∈ l → f.mode = 0 := fun f hf => (hmd f hf).resolve_right (fun h => hz h.2)
    have hnodes : m0.nodes = ord0.map (nodeOf K0) := hgm.nodes
    have hol : ord0.length = m0.nodes.length := by rw [hnodes, List.length_map]
    have hb : Bnd m0 (mgM m0 th l) := ⟨hlax, .inl (by show m0.room - 300 ≤ m0.room - (2 * cost _ + 2); omega), .inl (by show m0.room - (2 * cost _ + 2) ≤ m0.room; omega), Int.le_refl _⟩
    have hroom : m0.room - (mgM m0 th l).room = 2 * cost l + 2 := by show m0.room - (m0.room - _) = _; omega
    have hcom := gcommit_ok (msg := [109, 101, 114, 103, 101]) (pq := [atM m0, th]) hn hgm hl (by simp) (fun a b e => by rw [← (List.cons.inj e).1, ← (List.cons.inj (List.cons.inj e).2).1]; exact hne) (fun q hq => by
      rcases List.mem_cons.1 hq with rfl | hq
      · exact hgm.node.1 (hm.at_node.resolve_left hat0)
      · rw [List.mem_singleton.1 hq]; exact hth2) (by decide) (by have : m0.nxt = g0.nxt := hgm.nxt; omega)
    refine Ok_ob5 ?_
    unfold m154
    refine Ok_ob6 (hcom.mono (fun p hp => ?_))
    rcases hp with ⟨h40, rfl⟩ | ⟨h40, g', t', s', d', A', l1, l2, hp⟩
    · rw [if_pos (by omega)]
      refine Ok_ite (fun _ => Ok.some' (Ok.some' ?_)) (fun e => absurd (show ¬ ((8 : Int) = 0) by decide) e)
      refine Ok_ite (fun _ => Ok_ob5 ((back_ok (r := r0) (x := x0) (e := 8) hn h.gr hd0 hgm.lt (.refl hgm.lt.gd)).mono (fun q hq => Ok.some' ?_))) (fun e => absurd (show ¬ ((8 : Int) = 0) by decide) e)
      exact ⟨.inr ⟨rfl, hq.1, by show q.1 ≠ 5; rw [hq.1]; decide⟩, .refl hlax, .went (by show q.1 ≠ 5; rw [hq.1]; decide) hm ⟨A0, root, ord0, K0, bs0, ⟨hq.2.gr, hq.2.xf, h.wk⟩, .inl ⟨rfl, rfl, rfl, rfl⟩, by show (nfr A0 : Int) - nfr A0 ≤ m0.room - m0.room; omega⟩⟩
    rw [if_neg (by omega)]
    have hg2 : Grow TT d0 A0 d' A' := l2.mono (fun _ _ => trivial)
    rcases hp with ⟨rfl, hc⟩ | ⟨rfl, hc, ord', K', hgm', hex⟩
    · refine Ok_ite (fun _ => Ok.some' (Ok.some' ?_)) (fun e => absurd (show ¬ ((5 : Int) = 0) by decide) e)
      refine Ok_ite (fun _ => Ok_ob5 ((back_ok (r := r0) (x := x0) (e := 5) hn h.gr hd0 l1 hg2).mono (fun q hq => Ok.some' ?_))) (fun e => absurd (show ¬ ((5 : Int) = 0) by decide) e)
      exact ⟨.inl ⟨hq.1, rfl⟩, hb, .full hq.1 hq.2 h.wk (by rw [hroom]; omega)⟩
    · refine Ok_ite (fun e => absurd rfl e) (fun _ => Ok_ob2 ((move_r (r := r0) (show 100000 ≤ n by omega) hgm' hex (born hm)).mono (fun p hp => Ok.some' (Ok.some' ?_))))
      obtain ⟨hp1, bs', hp2⟩ := hp
      rw [hp1]
      rw [moveH_eq] at hp2
      refine Ok_ite (fun e => absurd rfl e) (fun _ => Ok_ob6 ((seal_ok (r := r0) (x := x0) hn h.gr hd0 hp2 hg2 hl).mono (fun u hu => ?_)))
      rcases hu with ⟨q1, q2, q3⟩ | ⟨q1, q2, A2, root2, q3, q4, q5⟩
      · rw [q1]
        exact Ok_ite (fun _ => Ok.some' ⟨.inl ⟨rfl, rfl⟩, hb, .full rfl q3 h.wk (by rw [hroom]; omega)⟩) (fun e => absurd (show ¬ ((5 : Int) = 0) by decide) e)
      · rw [q1, q2]
        have hk0 : k = 0 := by omega
        refine Ok_ite (fun e => absurd rfl e) (fun _ => Ok_ob2 ((take_ok (r := r0) (x := x0) (show 100000 ≤ n by omega) hl).mono (fun v hv => Ok.some' ⟨.inr ⟨hk0, rfl, by show (0 : Int) ≠ 5; decide⟩, hb, ?_⟩)))
        rw [plainF_id hm0] at hv
        have q3' : Gr u.2.2.1 u.2.2.2.1 u.2.2.2.2.1 u.2.1 A2 root2 ord' K' bs' (histOf (mgM m0 th l)) := q3
        refine .went (by show (0 : Int) ≠ 5; decide) (mi_of q3'.toGm ?_ (fun e => absurd (mvH_merge m0.head m0.nxt) e) mv_ub (fun f hf => .inl (hm0 f hf)) hl hm0) ⟨A2, root2, ord', K', bs', ⟨q3', hv.2, hv.1⟩, .inr q4, by rw [hroom]; omega⟩
        intro y hy
        rcases List.mem_append.1 (show y ∈ m0.nodes ++ _ from hy) with hy | hy
        · exact (hm.law y hy).2
        · rw [List.mem_singleton.1 hy]; exact hm0
end
end Go.Proofs.Qxb6500350aGreat
