/- PLAIN LAW: THE REPOSITORY (5): COMMIT, BRANCH, DELETE. -/
import Derived.Test.Qxb6500350aGreatK71
import Derived.Test.Qxb6500350aGreatT55
import Derived.Test.Qxb6500350aGreatT56
import Derived.Test.Qxb6500350aGreatT57
import Derived.Test.Qxb6500350aGreatT58
import Derived.Test.Qxb6500350aGreatT59
import Derived.Test.Qxb6500350aGreatT60
set_option linter.unusedVariables false
set_option linter.unusedSimpArgs false
set_option maxHeartbeats 2000000
namespace Go.Proofs.Qxb6500350aGreat
open Go.Eng Go
def mvR (refs : List Ref_) (hd : Head) (q : Int) : List Ref_ := if hd.name = [] then refs else withR refs hd.name q
def mvH (hd : Head) (q : Int) : Head := if hd.name = [] then { name := [], seq := q, merge := 0 } else { name := hd.name, seq := 0, merge := 0 }
theorem moveH_eq (H : Hist) (q : Int) : moveH H q = { H with refs := mvR H.refs H.head q, head := mvH H.head q } := by
  unfold moveH mvR mvH
  by_cases e : H.head.name = []
  · rw [if_pos e, if_pos e, if_pos e]
  · rw [if_neg e, if_neg e, if_neg e]
theorem mvH_merge (hd : Head) (q : Int) : (mvH hd q).merge = 0 := by unfold mvH; split <;> rfl
theorem mvH_name (hd : Head) (q : Int) : (mvH hd q).name = hd.name := by
  unfold mvH
  split
  · rename_i e; exact e.symm
  · rfl
theorem mv_ub {refs : List Ref_} {hd : Head} {q : Int} : (mvH hd q).name ≠ [] → findR (mvR refs hd q) (mvH hd q).name = none → mvR refs hd q = [] := by
  intro h1 h2
  rw [mvH_name] at h1 h2
  unfold mvR at h2
  rw [if_neg h1, findR_with] at h2
  cases h2
theorem findR_without {p q : Str} (h : q ≠ p) (l : List Ref_) : findR (withoutR l p) q = findR l q := by
  unfold findR withoutR
  rw [List.find?_filter]
  congr 1
  funext x
  by_cases e : x.name = q
  · simp [e, h]
  · simp [e]
/-- the parents of the next commit -/
def parsM (m : RepoM) : List Int := (if atM m ≠ 0 then [atM m] else []) ++ (if m.head.merge ≠ 0 then [m.head.merge] else [])
section
variable {n : Nat} {t0 t : Trees} {s0 s : Store} {d0 d : Dev} {g0 g : Graph} {x x0 x1 : Index} {r r0 : RepoR} {A0 A : Int → Ob} {root : Int} {ord0 ord : List Int} {K0 K : Int → CI} {bs0 bs : List Brn} {m0 m m1 : RepoM} {H : Hist}
theorem conf_m (hn : 100000 ≤ n) (hl : m.index.length ≤ 8) : Ok (m56_w1 n m n 0) (fun f => match f with | .ret v => v = (0, 21, m) ∧ ∃ f, f ∈ m.index ∧ f.mode = 1 | .nx _ => ∀ f, f ∈ m.index → f.mode ≠ 1) := by
  unfold m56_w1
  refine Ok_pre1 m.index (by omega) hn (fun pre => ∀ f, f ∈ pre → f.mode ≠ 1) (by simp) (fun Q lp pre x r hQ e hI hlt hget hw ih => ?_) (fun Q lp hQ hI => ?_)
  · refine Ok_ite (fun _ => Ok_ix (by omega) hlt (fun y hy => ?_)) (fun h => absurd hlt h)
    obtain rfl := hget y hy
    refine Ok_ite (fun e2 => Ok_bs (Ok.some' (hQ _ ⟨rfl, x, by rw [e]; simp, e2⟩))) (fun e2 => ?_)
    rw [hw]
    refine ih (fun f hf => ?_)
    rcases List.mem_append.1 hf with h | h
    · exact hI f h
    · rw [List.mem_singleton.1 h]; exact e2
  · exact Ok_ite (fun h => absurd h (by omega)) (fun _ => Ok.some' (hQ _ hI))
theorem conf_r {l : List File} (hn : 100000 ≤ n) (hl : l.length ≤ 8) : Ok (m55_w1 n g t s d x l n 0) (fun f => match f with | .ret v => v = (0, 21, g, t, s, d, x) ∧ ∃ f, f ∈ l ∧ f.mode = 1 | .nx _ => ∀ f, f ∈ l → f.mode ≠ 1) := by
  unfold m55_w1
  refine Ok_pre1 l (by omega) hn (fun pre => ∀ f, f ∈ pre → f.mode ≠ 1) (by simp) (fun Q lp pre x r hQ e hI hlt hget hw ih => ?_) (fun Q lp hQ hI => ?_)
  · refine Ok_ite (fun _ => Ok_ix (by omega) hlt (fun y hy => ?_)) (fun h => absurd hlt h)
    obtain rfl := hget y hy
    refine Ok_ite (fun e2 => Ok_bs (Ok.some' (hQ _ ⟨rfl, x, by rw [e]; simp, e2⟩))) (fun e2 => ?_)
    rw [hw]
    refine ih (fun f hf => ?_)
    rcases List.mem_append.1 hf with h | h
    · exact hI f h
    · rw [List.mem_singleton.1 h]; exact e2
  · exact Ok_ite (fun h => absurd h (by omega)) (fun _ => Ok.some' (hQ _ hI))
/-- the model behind a commit -/
def comM (m : RepoM) (msg : Str) : RepoM := { m with room := m.room - (cost m.index + 2), nxt := m.nxt + 1, nodes := m.nodes ++ [{ seq := m.nxt, files := m.index, parents := parsM m, msg := msg }], refs := mvR m.refs m.head m.nxt, head := mvH m.head m.nxt }
def comV (m : RepoM) (msg : Str) : Int × Int × RepoM :=
  if 16 < msg.length then (0, 19, m) else if ∃ f, f ∈ m.index ∧ f.mode = 1 then (0, 21, m) else if m.head.merge = 0 ∧ m.index = snapN m.nodes (atM m) then (0, 23, m) else if 40 ≤ m.nodes.length then (0, 8, m) else (m.nxt, 0, comM m msg)
theorem commit_m {msg : Str} (hn : 100010 ≤ n) (hm : MI m0) (hlax : m0.lax = true) (hrm : -1152921504606846976 ≤ m0.room ∧ m0.room ≤ 48) (hnx : m0.nxt < 1152921504606846976) : m56 n m0 msg = some (comV m0 msg) := by
  have hinum := hm.ix.num
  have hnn := hm.wn.len
  have hrl := hm.rl
  have hcr := cost_rng hm.ix
  have hnx1 := hm.nx
  refine Ok.eq ?_
  unfold m56 comV
  refine Ok_ite (fun h => Ok.some' (by rw [if_pos (by omega)])) (fun h16 => ?_)
  rw [if_neg (by omega)]
  refine Ok_flow ((conf_m (by omega) hinum).mono (fun f hf => ?_))
  cases f with
  | ret v =>
    obtain ⟨rfl, h⟩ := hf
    exact Ok.some' (by rw [if_pos h])
  | nx c =>
    have hno : ¬ ∃ f, f ∈ m0.index ∧ f.mode = 1 := fun ⟨f, h1, h2⟩ => hf f h1 h2
    rw [if_neg hno]
    show Ok (flow _ _ _) _
    have rest : ¬ (m0.head.merge = 0 ∧ m0.index = snapN m0.nodes (atM m0)) → Ok (cond (decide ((40 : Int) ≤ (m0.nodes.length : Int))) (some ((0 : Int), (8 : Int), m0)) (
        ob1 (m124 n m0.index) fun c4 =>
        ob2 (m125 n m0 (wi (c4 + 2))) fun c5 z2 =>
        cond (!c5) (
        some ((0 : Int), (5 : Int), z2)) (
        ob1 (m134 n z2) fun c6 =>
        ob1 (cond (decide (¬ (c6 = 0))) (
        Option.bind (apd ([] : List Int) c6) fun l3 =>
        some l3) (
        some ([] : List Int))) fun l2 =>
        ob1 (cond (decide (¬ (z2.head.merge = 0))) (
        Option.bind (apd l2 z2.head.merge) fun l5 =>
        some l5) (
        some l2)) fun l4 =>
        nm ({ z2 with nxt := (wi (z2.nxt + 1)) } : RepoM) fun z3 =>
        ob1 (m27 n z3.index) fun l6 =>
        Option.bind (apd z3.nodes ({ seq := z2.nxt, files := l6, parents := l4, msg := msg } : Node)) fun l7 =>
        nm ({ z3 with nodes := l7 } : RepoM) fun z4 =>
        ob1 (m135 n z4 z2.nxt) fun z5 =>
        some (z2.nxt, (0 : Int), z5)))) (fun v => v = if m0.head.merge = 0 ∧ m0.index = snapN m0.nodes (atM m0) then (0, 23, m0) else if 40 ≤ m0.nodes.length then (0, 8, m0) else (m0.nxt, 0, comM m0 msg)) := by
      intro hns
      rw [if_neg hns]
      refine Ok_ite (fun h => Ok.some' (by rw [if_pos (by omega)])) (fun h40 => ?_)
      rw [if_neg (by omega)]
      refine Ok_cl1 (cost_ok (by omega) hm.ix) ?_
      rw [wi_e (x := cost m0.index + 2) (by omega) (by omega)]
      refine Ok_cl2 (pay_m hlax) ?_
      rw [wi_e (x := m0.room - (cost m0.index + 2)) (by omega) (by omega)]
      refine Ok_cond (fun e => nomatch e) (fun _ => ?_)
      refine Ok_cl1 (at_m (m := { m0 with room := m0.room - (cost m0.index + 2) }) (by omega) (by show m0.refs.length < 100000; omega)) ?_
      show Ok (ob1 (cond (decide (¬ (atM m0 = 0))) _ _) _) _
      refine Ok_ob1 ((show Ok _ (fun l => l = if atM m0 ≠ 0 then [atM m0] else []) from Ok_ite (fun e => Ok_apd (by show (0 : Nat) < _; decide) (Ok.some' (by rw [if_pos e]; rfl))) (fun e => Ok.some' (by rw [if_neg e]))).mono (fun l2 hl2 => ?_))
      have hl2n : l2.length ≤ 1 := by rw [hl2]; split <;> simp
      refine Ok_ob1 ((show Ok _ (fun l => l = parsM m0) from Ok_ite (fun e => Ok_apd (by omega) (Ok.some' (by unfold parsM; rw [hl2, if_pos (c := m0.head.merge ≠ 0) e]))) (fun e => Ok.some' (by unfold parsM; rw [hl2, if_neg (c := m0.head.merge ≠ 0) e, List.append_nil]))).mono (fun l4 hl4 => ?_))
      subst hl4
      refine Ok_nmz (fun z3 hz3 => ?_)
      have e1 : z3.index = m0.index := by rw [hz3]
      have e2 : z3.nodes = m0.nodes := by rw [hz3]
      rw [e1, e2]
      refine Ok_cl1 (copyFiles_ok (by omega) (by omega)) (Ok_apd (by omega) (Ok_nmz (fun z4 hz4 => ?_)))
      have e3 : z4.refs = m0.refs := by rw [hz4, hz3]
      have e4 : z4.head = m0.head := by rw [hz4, hz3]
      refine Ok_cl1 (move_m (by omega) (by rw [e3]; omega)) (Ok.some' ?_)
      rw [moveH_eq]
      show (m0.nxt, (0 : Int), ({ z4 with refs := mvR z4.refs z4.head m0.nxt, head := mvH z4.head m0.nxt } : RepoM)) = _
      rw [e3, e4, hz4, hz3]
      show (m0.nxt, (0 : Int), ({ m0 with room := _, nxt := wi (m0.nxt + 1), nodes := _, refs := _, head := _ } : RepoM)) = _
      rw [wi_e (x := m0.nxt + 1) (by omega) (by omega)]
      rfl
    refine Ok_flow (Ok_ite (fun e => Ok_cl1 (here_m (by omega) (by omega) (by omega)) (Ok_cl1 (sameFiles_ok (by omega) (by omega)) (Ok_ite (fun e2 => ?_) (fun e2 => ?_)))) (fun e => ?_))
    · exact Ok_bs (Ok.some' (Ok.some' (by rw [if_pos ⟨e, e2⟩])))
    · exact Ok.some' (rest (fun h => e2 h.2))
    · exact Ok.some' (rest (fun h => e h.1))
/-- new numbers stay in their bounds -/
theorem commit_c {msg : Str} (hn : 100010 ≤ n) (h : Sys t0 s0 d0 g0 x0 r0 A0 root ord0 K0 bs0 m0) (hm : MI m0) (hlax : m0.lax = true) (hrm : -1152921504606846976 ≤ m0.room ∧ m0.room ≤ 48) (hnx : m0.nxt < 1152921504606846976) (hd0 : d0.at_.length ≤ 1000) :
    Ok (m56 n m0 msg) (fun qm => Ok (m55 n r0 g0 t0 s0 d0 x0 msg) (fun q => ((q.2.1 = 5 ∧ q.1 = 0) ∨ (q.1 = qm.1 ∧ q.2.1 = qm.2.1)) ∧ Bnd m0 qm.2.2 ∧ Out m0 d0 A0 root ord0 K0 bs0 q.2.2.2.1 q.2.2.2.2.1 q.2.2.2.2.2.1 q.2.2.1 q.2.2.2.2.2.2 r0 qm.2.2 q.2.1)) := by
  have hinum := hm.ix.num
  have hnn := hm.wn.len
  have hrl := hm.rl
  have hcr := cost_rng hm.ix
  have hnx1 := hm.nx
  refine ⟨_, commit_m hn hm hlax hrm hnx, ?_⟩
  unfold comV m55
  refine Ok_ite (fun h => ?_) (fun h16 => ?_)
  · rw [if_pos (by omega)]; exact Ok.some' ⟨.inr ⟨rfl, rfl⟩, .refl hlax, .same ‹_› hm (by show (19 : Int) ≠ 5; decide)⟩
  rw [if_neg (by omega)]
  refine Ok_cl1 (list_x hn h.xf) (Ok_flow ((conf_r (by omega) hinum).mono (fun f hf => ?_)))
  cases f with
  | ret v =>
    obtain ⟨rfl, hc⟩ := hf
    rw [if_pos hc]
    exact Ok.some' ⟨.inr ⟨rfl, rfl⟩, .refl hlax, .same h hm (by show (21 : Int) ≠ 5; decide)⟩
  | nx c =>
    have hno : ¬ ∃ f, f ∈ m0.index ∧ f.mode = 1 := fun ⟨f, h1, h2⟩ => hf f h1 h2
    rw [if_neg hno]
    show Ok (ob1 _ _) _
    have hgm := h.gr.toGm
    refine Ok_cl1 (ghead_ok hgm) (Ok_nmz (fun z2 hz2 => ?_))
    have hz2 : z2 = m0.head := hz2
    subst hz2
    have hat := at_r (r := r0) (show 100000 ≤ n by omega) hgm
    refine Ok_cl1 hat ?_
    show Ok (flow (cond (decide (m0.head.merge = 0)) (ob1 (m128 n r0 g0 t0 s0 d0 (atM m0)) _) _) _ _) _
    -- the commit itself
    have hnodes : m0.nodes = ord0.map (nodeOf K0) := hgm.nodes
    have hol : ord0.length = m0.nodes.length := by rw [hnodes, List.length_map]
    have hpm : ∀ q, q ∈ parsM m0 → ∃ i, i ∈ ord0 ∧ (K0 i).seq = q := by
      intro q hq
      unfold parsM at hq
      rw [List.mem_append] at hq
      refine hgm.node.1 ?_
      rcases hq with hq | hq
      · split at hq
        · rename_i e
          rw [List.mem_singleton.1 hq]
          exact (hm.at_node.resolve_left e)
        · cases hq
      · split at hq
        · rename_i e
          rw [List.mem_singleton.1 hq]
          exact (hm.mg.resolve_left e)
        · cases hq
    have hp2 : (parsM m0).length ≤ 2 := by
      unfold parsM
      rw [List.length_append]
      have e1 : (if atM m0 ≠ 0 then [atM m0] else []).length ≤ 1 := by split <;> simp
      have e2 : (if m0.head.merge ≠ 0 then [m0.head.merge] else []).length ≤ 1 := by split <;> simp
      omega
    have hpd : ∀ a b, parsM m0 = [a, b] → a ≠ b := by
      intro a b hab
      unfold parsM at hab
      by_cases e1 : atM m0 ≠ 0
      · rw [if_pos e1] at hab
        by_cases e2 : m0.head.merge ≠ 0
        · rw [if_pos e2] at hab
          have hab : [atM m0, m0.head.merge] = [a, b] := hab
          have h1 := (List.cons.inj hab).1
          have h2 := (List.cons.inj (List.cons.inj hab).2).1
          rw [← h1, ← h2]; exact (hm.mo e2).2
        · rw [if_neg e2] at hab; cases hab
      · rw [if_neg e1] at hab
        by_cases e2 : m0.head.merge ≠ 0
        · rw [if_pos e2] at hab; cases hab
        · rw [if_neg e2] at hab; cases hab
    have hmode : ∀ f, f ∈ m0.index → f.mode = 0 := fun f hf2 => (hm.im f hf2).resolve_right (fun h => hno ⟨f, hf2, h.1⟩)
    have hcom := gcommit_ok (msg := msg) hn hgm hm.ix hp2 hpd hpm (by omega) (by have : m0.nxt = g0.nxt := hgm.nxt; omega)
    have rest : Ok (ob6 (m129 n g0 t0 s0 d0 m0.index (parsM m0) msg) fun c5 c6 z3 z4 z5 z6 =>
        ob2 (cond (decide (c6 = 0)) (
        ob2 (m130 n r0 z3 m0.head c5) fun c8 z8 =>
        some (c8, z8)) (
        some (c6, z3))) fun c7 z7 =>
        cond (decide (¬ (c7 = 0))) (
        ob5 (m131 n r0 z7 z4 z5 z6 x0 c7) fun c9 z9 z10 z11 z12 =>
        some ((0 : Int), c9, z9, z10, z11, z6, z12)) (
        ob6 (m132 n r0 z7 z4 z5 z6 x0) fun c10 z13 z14 z15 z16 z17 =>
        cond (decide (¬ (c10 = 0))) (
        some ((0 : Int), c10, z13, z14, z15, z16, z17)) (
        some (c5, (0 : Int), z13, z14, z15, z16, z17)))) (fun q => ((q.2.1 = 5 ∧ q.1 = 0) ∨ (q.1 = (if 40 ≤ m0.nodes.length then ((0 : Int), (8 : Int), m0) else (m0.nxt, 0, comM m0 msg)).1 ∧ q.2.1 = (if 40 ≤ m0.nodes.length then ((0 : Int), (8 : Int), m0) else (m0.nxt, 0, comM m0 msg)).2.1)) ∧ Bnd m0 (if 40 ≤ m0.nodes.length then ((0 : Int), (8 : Int), m0) else (m0.nxt, 0, comM m0 msg)).2.2 ∧ Out m0 d0 A0 root ord0 K0 bs0 q.2.2.2.1 q.2.2.2.2.1 q.2.2.2.2.2.1 q.2.2.1 q.2.2.2.2.2.2 r0 (if 40 ≤ m0.nodes.length then ((0 : Int), (8 : Int), m0) else (m0.nxt, 0, comM m0 msg)).2.2 q.2.1) := by
      have hbnd : Bnd m0 (comM m0 msg) := ⟨hlax, .inl (by show m0.room - 300 ≤ m0.room - (cost m0.index + 2); omega), .inl (by show m0.room - (cost m0.index + 2) ≤ m0.room; omega), Int.le_refl _⟩
      have hroom : m0.room - (comM m0 msg).room = cost m0.index + 2 := by show m0.room - (m0.room - (cost m0.index + 2)) = _; omega
      refine Ok_ob6 (hcom.mono (fun p hp => ?_))
      rcases hp with ⟨h40, rfl⟩ | ⟨h40, g', t', s', d', A', l1, l2, hp⟩
      · rw [if_pos (by omega)]
        refine Ok_ob2 (Ok_ite (fun e => absurd e (show ¬ ((8 : Int) = 0) by decide)) (fun _ => Ok.some' ?_))
        refine Ok_ite (fun _ => Ok_ob5 ((back_ok (r := r0) (x := x0) (e := 8) hn h.gr hd0 hgm.lt (.refl hgm.lt.gd)).mono (fun q hq => Ok.some' ?_))) (fun e => absurd (show ¬ ((8 : Int) = 0) by decide) e)
        refine ⟨.inr ⟨rfl, hq.1⟩, .refl hlax, .went (by show q.1 ≠ 5; rw [hq.1]; decide) hm ⟨A0, root, ord0, K0, bs0, ⟨hq.2.gr, hq.2.xf, h.wk⟩, .inl ⟨rfl, rfl, rfl, rfl⟩, by show (nfr A0 : Int) - nfr A0 ≤ m0.room - m0.room; omega⟩⟩
      rw [if_neg (by omega)]
      have hg2 : Grow TT d0 A0 d' A' := l2.mono (fun _ _ => trivial)
      rcases hp with ⟨rfl, hc⟩ | ⟨rfl, hc, ord', K', hgm', hex⟩
      · refine Ok_ob2 (Ok_ite (fun e => absurd e (show ¬ ((5 : Int) = 0) by decide)) (fun _ => Ok.some' ?_))
        refine Ok_ite (fun _ => Ok_ob5 ((back_ok (r := r0) (x := x0) (e := 5) hn h.gr hd0 l1 hg2).mono (fun q hq => Ok.some' ?_))) (fun e => absurd (show ¬ ((5 : Int) = 0) by decide) e)
        exact ⟨.inl ⟨hq.1, rfl⟩, hbnd, .full hq.1 hq.2 h.wk (by rw [hroom]; omega)⟩
      · refine Ok_ob2 (Ok_ite (fun _ => Ok_ob2 ((move_r (r := r0) (show 100000 ≤ n by omega) hgm' hex (fun e => ?_)).mono (fun p hp => Ok.some' ?_))) (fun e => absurd rfl e))
        · rcases hm.hd with ⟨_, h2, _⟩ | ⟨h1, _⟩
          · refine ⟨h2, ?_⟩
            by_cases e3 : findR m0.refs m0.head.name = none
            · right
              have := hm.ub e e3
              show m0.refs.length < 4
              rw [this]; decide
            · exact .inl e3
          · exact absurd h1 e
        obtain ⟨hp1, bs', hp2⟩ := hp
        rw [hp1]
        refine Ok_ite (fun e => absurd rfl e) (fun _ => Ok_ob6 ((save_ok (r := r0) (x := x0) hn h.gr hd0 hp2 hg2).mono (fun q hq => ?_)))
        rcases hq with ⟨q1, q2, q3⟩ | ⟨q1, q2, A2, root2, q3, q4, q5⟩
        · rw [q1]
          exact Ok_ite (fun _ => Ok.some' ⟨.inl ⟨rfl, rfl⟩, hbnd, .full rfl q3 h.wk (by rw [hroom]; omega)⟩) (fun e => absurd (show ¬ ((5 : Int) = 0) by decide) e)
        · rw [q1]
          refine Ok_ite (fun e => absurd rfl e) (fun _ => Ok.some' ⟨.inr ⟨rfl, rfl⟩, hbnd, ?_⟩)
          rw [moveH_eq] at q3
          have q3' : Gr q.2.2.1 q.2.2.2.1 q.2.2.2.2.1 q.2.1 A2 root2 ord' K' bs' (histOf (comM m0 msg)) := q3
          refine .went (by show (0 : Int) ≠ 5; decide) (mi_of q3'.toGm ?_ ?_ mv_ub ?_ hm.wk hm.wm) ⟨A2, root2, ord', K', bs', ⟨q3', by rw [q2]; exact h.xf, h.wk⟩, .inr q4, by rw [hroom]; omega⟩
          · intro y hy
            rcases List.mem_append.1 (show y ∈ m0.nodes ++ _ from hy) with hy | hy
            · exact (hm.law y hy).2
            · rw [List.mem_singleton.1 hy]; exact hmode
          · intro e; exact absurd (mvH_merge m0.head m0.nxt) e
          · intro f hf2; exact .inl (hmode f hf2)
    have hpars : ∀ {F : List Int → Option (Int × Int × Graph × Trees × Store × Dev × Index)} {P}, Ok (F (parsM m0)) P → Ok (ob1 (cond (decide (¬ (atM m0 = 0))) (Option.bind (apd ([] : List Int) (atM m0)) fun l4 => some l4) (some ([] : List Int))) fun l3 => ob1 (cond (decide (¬ (m0.head.merge = 0))) (Option.bind (apd l3 m0.head.merge) fun l6 => some l6) (some l3)) F) P := by
      intro F P hF
      refine Ok_ob1 ((show Ok _ (fun l => l = if atM m0 ≠ 0 then [atM m0] else []) from Ok_ite (fun e => Ok_apd (by show (0 : Nat) < _; decide) (Ok.some' (by rw [if_pos e]; rfl))) (fun e => Ok.some' (by rw [if_neg e]))).mono (fun l2 hl2 => ?_))
      have hl2n : l2.length ≤ 1 := by rw [hl2]; split <;> simp
      refine Ok_ob1 ((show Ok _ (fun l => l = parsM m0) from Ok_ite (fun e => Ok_apd (by omega) (Ok.some' (by unfold parsM; rw [hl2, if_pos (c := m0.head.merge ≠ 0) e]))) (fun e => Ok.some' (by unfold parsM; rw [hl2, if_neg (c := m0.head.merge ≠ 0) e, List.append_nil]))).mono (fun l4 hl4 => ?_))
      rw [hl4]; exact hF
    have hsn := snap_r (r := r0) hn hgm (atM m0)
    by_cases hs : m0.head.merge = 0 ∧ m0.index = snapN m0.nodes (atM m0)
    · rw [if_pos hs]
      refine Ok_flow (Ok_ite (fun e => Ok_cl1 hsn (Ok_cl1 (sameFiles_ok (by omega) (by omega)) (Ok_ite (fun e2 => ?_) (fun e2 => absurd hs.2 e2)))) (fun e => absurd hs.1 e))
      exact Ok_bs (Ok.some' (Ok.some' ⟨.inr ⟨rfl, rfl⟩, .refl hlax, .same h hm (by show (23 : Int) ≠ 5; decide)⟩))
    · rw [if_neg hs]
      refine Ok_flow (Ok_ite (fun e => Ok_cl1 hsn (Ok_cl1 (sameFiles_ok (by omega) (by omega)) (Ok_ite (fun e2 => absurd ⟨e, e2⟩ hs) (fun e2 => Ok.some' ?_)))) (fun e => Ok.some' ?_))
      · exact hpars rest
      · exact hpars rest
end
end Go.Proofs.Qxb6500350aGreat
