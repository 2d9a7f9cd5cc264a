/- PLAIN LAW: THE REPOSITORY (6): BRANCH, DELETE, SWITCH, CHECKOUT. -/
import Derived.Test.Qxb6500350aGreatK72
import Derived.Test.Qxb6500350aGreatT61
import Derived.Test.Qxb6500350aGreatT62
import Derived.Test.Qxb6500350aGreatT63
import Derived.Test.Qxb6500350aGreatT64
set_option linter.unusedVariables false
set_option linter.unusedSimpArgs false
set_option maxHeartbeats 2000000
namespace Go.Proofs.Qxb6500350aGreat
open Go.Eng Go
section
variable {n : Nat} {t0 t : Trees} {s0 s : Store} {d0 d : Dev} {g0 g : Graph} {x x0 x1 : Index} {r r0 : RepoR} {A0 A : Int → Ob} {root : Int} {ord0 ord : List Int} {K0 K : Int → CI} {bs0 bs : List Brn} {m0 m m1 : RepoM} {H : Hist}
theorem branch_c {name : Str} (hn : 100010 ≤ n) (h : Sys t0 s0 d0 g0 x0 r0 A0 root ord0 K0 bs0 m0) (hm : MI m0) (hlax : m0.lax = true) (hrm : -1152921504606846976 ≤ m0.room ∧ m0.room ≤ 48) (hd0 : d0.at_.length ≤ 1000) :
    Ok (m58 n m0 name) (fun qm => Ok (m57 n r0 g0 t0 s0 d0 x0 name) (fun q => (q.1 = qm.1 ∨ q.1 = 5) ∧ Bnd m0 qm.2 ∧ Out m0 d0 A0 root ord0 K0 bs0 q.2.2.1 q.2.2.2.1 q.2.2.2.2.1 q.2.1 q.2.2.2.2.2 r0 qm.2 q.1)) := by
  have hrl := hm.rl
  have hgm := h.gr.toGm
  have hsrt : m0.refs.Pairwise fun a b => sLt a.name b.name = true := refs_srt hgm.cur
  have hbr := gbranches_ok (show 100000 ≤ n by omega) hgm
  have hsq := seqOf_r (n := n) (p := name) (show 100000 ≤ n by omega) (show m0.refs.length ≤ 8 by omega) hsrt
  have hat := at_r (r := r0) (show 100000 ≤ n by omega) hgm
  have same : ∀ e : Int, e ≠ 5 → Ok (some (e, g0, t0, s0, d0, x0)) (fun q => (q.1 = e ∨ q.1 = 5) ∧ Bnd m0 m0 ∧ Out m0 d0 A0 root ord0 K0 bs0 q.2.2.1 q.2.2.2.1 q.2.2.2.2.1 q.2.1 q.2.2.2.2.2 r0 m0 q.1) :=
    fun e he => Ok.some' ⟨.inl rfl, .refl hlax, .same h hm he⟩
  unfold m58 m57
  refine Ok_cl1 (goodName_ok (by omega)) (Ok_iteN (fun e => ?_) (fun e => ?_))
  · refine Ok.some' (Ok_cl1 (goodName_ok (by omega)) ?_)
    rw [e]; exact same 14 (by decide)
  refine Ok_ob1 ((findRef_ok (by omega) (by omega)).mono (fun i hi => ?_))
  rcases hi with ⟨rfl, e2⟩ | ⟨h0, h1, y, _, _, e2⟩
  · refine Ok_ite (fun h => absurd h (by decide)) (fun _ => Ok_cl1 (at_m (by omega) (by omega)) (Ok_ite (fun e3 => Ok.some' ?_) (fun e3 => Ok_ite (fun h4 => Ok.some' ?_) (fun h4 => Ok_cl2 (pay_m hlax) ?_))))
    · refine Ok_cl1 (goodName_ok (by omega)) ?_
      rw [e]
      refine Ok_cond (fun e => nomatch e) (fun _ => Ok_cl1 hbr ?_)
      show Ok (ob2 (m138 n m0.refs name) _) _
      rw [hsq, e2]
      refine Ok_cl2 rfl ?_
      refine Ok_cond (fun e => nomatch e) (fun _ => Ok_cl1 (ghead_ok hgm) (Ok_nmz fun z1 hz1 => ?_))
      have hz1 : z1 = m0.head := hz1
      subst hz1
      exact Ok_cl1 hat (Ok_ite (fun _ => same 17 (by decide)) (fun h => absurd e3 h))
    · refine Ok_cl1 (goodName_ok (by omega)) ?_
      rw [e]
      refine Ok_cond (fun e => nomatch e) (fun _ => Ok_cl1 hbr ?_)
      show Ok (ob2 (m138 n m0.refs name) _) _
      rw [hsq, e2]
      refine Ok_cl2 rfl ?_
      refine Ok_cond (fun e => nomatch e) (fun _ => Ok_cl1 (ghead_ok hgm) (Ok_nmz fun z1 hz1 => ?_))
      have hz1 : z1 = m0.head := hz1
      subst hz1
      exact Ok_cl1 hat (Ok_ite (fun h => absurd h e3) (fun _ => Ok_ite (fun _ => same 8 (by decide)) (fun h => absurd h4 h)))
    · rw [wi_e (x := m0.room - 1) (by omega) (by omega)]
      refine Ok_cond (fun e => nomatch e) (fun _ => ?_)
      refine Ok_cl1 (withRef_ok (by omega) (by show m0.refs.length < 10000; omega)) (Ok_nmz fun z2 hz2 => Ok.some' ?_)
      have hb : Bnd m0 z2 := by
        subst hz2
        exact ⟨hlax, .inl (by show m0.room - 300 ≤ m0.room - 1; omega), .inl (by show m0.room - 1 ≤ m0.room; omega), by show m0.nxt ≤ m0.nxt + 1; omega⟩
      have hroom : m0.room - z2.room = 1 := by subst hz2; show m0.room - (m0.room - 1) = 1; omega
      refine Ok_cl1 (goodName_ok (by omega)) ?_
      rw [e]
      refine Ok_cond (fun e => nomatch e) (fun _ => Ok_cl1 hbr ?_)
      show Ok (ob2 (m138 n m0.refs name) _) _
      rw [hsq, e2]
      refine Ok_cl2 rfl ?_
      refine Ok_cond (fun e => nomatch e) (fun _ => Ok_cl1 (ghead_ok hgm) (Ok_nmz fun z1 hz1 => ?_))
      have hz1 : z1 = m0.head := hz1
      subst hz1
      refine Ok_cl1 hat (Ok_ite (fun h => absurd h e3) (fun _ => Ok_ite (fun h => absurd h h4) (fun _ => ?_)))
      refine Ok_ob2 ((gsetBranch_ok (q := atM m0) (show 100000 ≤ n by omega) hgm e (hgm.node.1 (hm.at_node.resolve_left e3)) (.inr (by show m0.refs.length < 4; omega))).mono (fun p hp => ?_))
      obtain ⟨p1, bs', p2⟩ := hp
      rw [p1]
      refine Ok_ite (fun h => absurd rfl h) (fun _ => Ok_ob6 ((save_ok (r := r0) (x := x0) hn h.gr hd0 p2 (.refl hgm.lt.gd)).mono (fun q hq => Ok.some' ?_)))
      rcases hq with ⟨q1, q2, q3⟩ | ⟨q1, q2, A2, root2, q3, q4, q5⟩
      · exact ⟨.inr q1, hb, .full q1 q3 h.wk (by rw [hroom]; omega)⟩
      · refine ⟨.inl q1, hb, ?_⟩
        have q3' : Gr q.2.2.1 q.2.2.2.1 q.2.2.2.2.1 q.2.1 A2 root2 ord0 K0 bs' (histOf z2) := by subst hz2; exact q3
        have hne : m0.head.name ≠ [] → m0.head.name ≠ name := by
          intro h5 h6
          apply e3
          unfold atM atH
          rw [if_neg h5, h6, e2]
        refine .went (by rw [q1]; decide) (mi_of q3'.toGm ?_ ?_ ?_ ?_ ?_ ?_) ⟨A2, root2, ord0, K0, bs', ⟨q3', by rw [q2, hz2]; exact h.xf, by rw [hz2]; exact h.wk⟩, .inr q4, by rw [hroom]; omega⟩
        · rw [hz2]; exact fun y hy => (hm.law y hy).2
        · have ha : atM z2 = atM m0 := by
            rw [hz2]
            unfold atM atH
            by_cases h5 : m0.head.name = []
            · rw [if_pos h5, if_pos h5]
            · rw [if_neg h5, if_neg h5, findR_with_ne (hne h5)]
          rw [ha, hz2]; exact hm.mo
        · rw [hz2]
          intro h5 h6
          rw [findR_with_ne (hne h5)] at h6
          exfalso
          apply e3
          unfold atM atH
          have h6 : findR m0.refs m0.head.name = none := h6
          rw [if_neg h5, h6]
        · rw [hz2]; exact hm.im
        · rw [hz2]; exact hm.wk
        · rw [hz2]; exact hm.wm
  · refine Ok_ite (fun _ => Ok.some' (Ok_cl1 (goodName_ok (by omega)) ?_)) (fun h => absurd h0 h)
    rw [e]
    refine Ok_cond (fun e => nomatch e) (fun _ => Ok_cl1 hbr ?_)
    show Ok (ob2 (m138 n m0.refs name) _) _
    rw [hsq, e2]
    refine Ok_cl2 rfl ?_
    exact Ok_cond (fun _ => same 15 (by decide)) (fun e => nomatch e)
theorem delete_c {name : Str} (hn : 100010 ≤ n) (h : Sys t0 s0 d0 g0 x0 r0 A0 root ord0 K0 bs0 m0) (hm : MI m0) (hlax : m0.lax = true) (hrm : -1152921504606846976 ≤ m0.room ∧ m0.room ≤ 48) (hd0 : d0.at_.length ≤ 1000) :
    Ok (m60 n m0 name) (fun qm => Ok (m59 n r0 g0 t0 s0 d0 x0 name) (fun q => (q.1 = qm.1 ∨ q.1 = 5) ∧ Bnd m0 qm.2 ∧ Out m0 d0 A0 root ord0 K0 bs0 q.2.2.1 q.2.2.2.1 q.2.2.2.2.1 q.2.1 q.2.2.2.2.2 r0 qm.2 q.1)) := by
  have hrl := hm.rl
  have hgm := h.gr.toGm
  have hsrt : m0.refs.Pairwise fun a b => sLt a.name b.name = true := refs_srt hgm.cur
  have hbr := gbranches_ok (show 100000 ≤ n by omega) hgm
  have hsq := seqOf_r (n := n) (p := name) (show 100000 ≤ n by omega) (show m0.refs.length ≤ 8 by omega) hsrt
  have same : ∀ e : Int, e ≠ 5 → Ok (some (e, g0, t0, s0, d0, x0)) (fun q => (q.1 = e ∨ q.1 = 5) ∧ Bnd m0 m0 ∧ Out m0 d0 A0 root ord0 K0 bs0 q.2.2.1 q.2.2.2.1 q.2.2.2.2.1 q.2.1 q.2.2.2.2.2 r0 m0 q.1) :=
    fun e he => Ok.some' ⟨.inl rfl, .refl hlax, .same h hm he⟩
  unfold m60 m59
  refine Ok_cl1 (goodName_ok (by omega)) (Ok_iteN (fun e => ?_) (fun e => ?_))
  · refine Ok.some' (Ok_cl1 (goodName_ok (by omega)) ?_)
    rw [e]; exact same 14 (by decide)
  refine Ok_ob1 ((findRef_ok (by omega) (by omega)).mono (fun i hi => ?_))
  rcases hi with ⟨rfl, e2⟩ | ⟨h0, h1, y, _, _, e2⟩
  · refine Ok_ite (fun _ => Ok.some' (Ok_cl1 (goodName_ok (by omega)) ?_)) (fun h => absurd (show (-1 : Int) < 0 by decide) h)
    rw [e]
    refine Ok_cond (fun e => nomatch e) (fun _ => Ok_cl1 hbr ?_)
    show Ok (ob2 (m138 n m0.refs name) _) _
    rw [hsq, e2]
    refine Ok_cl2 rfl ?_
    exact Ok_cond (fun _ => same 16 (by decide)) (fun e => nomatch e)
  · refine Ok_ite (fun h => by omega) (fun _ => Ok_ite (fun e3 => Ok.some' (Ok_cl1 (goodName_ok (by omega)) ?_)) (fun e3 => Ok_cl2 (pay_m hlax) ?_))
    · rw [e]
      refine Ok_cond (fun e => nomatch e) (fun _ => Ok_cl1 hbr ?_)
      show Ok (ob2 (m138 n m0.refs name) _) _
      rw [hsq, e2]
      refine Ok_cl2 rfl ?_
      refine Ok_cond (fun e => nomatch e) (fun _ => Ok_cl1 (ghead_ok hgm) (Ok_nmz fun z1 hz1 => ?_))
      have hz1 : z1 = m0.head := hz1
      subst hz1
      exact Ok_ite (fun _ => same 25 (by decide)) (fun h => absurd e3 h)
    · rw [wi_e (x := m0.room - 1) (by omega) (by omega)]
      refine Ok_cond (fun e => nomatch e) (fun _ => ?_)
      refine Ok_cl1 (withoutRef_ok (by omega) (by show m0.refs.length < 10000; omega)) (Ok_nmz fun z2 hz2 => Ok.some' ?_)
      have hb : Bnd m0 z2 := by
        subst hz2
        exact ⟨hlax, .inl (by show m0.room - 300 ≤ m0.room - 1; omega), .inl (by show m0.room - 1 ≤ m0.room; omega), by show m0.nxt ≤ m0.nxt + 1; omega⟩
      have hroom : m0.room - z2.room = 1 := by subst hz2; show m0.room - (m0.room - 1) = 1; omega
      refine Ok_cl1 (goodName_ok (by omega)) ?_
      rw [e]
      refine Ok_cond (fun e => nomatch e) (fun _ => Ok_cl1 hbr ?_)
      show Ok (ob2 (m138 n m0.refs name) _) _
      rw [hsq, e2]
      refine Ok_cl2 rfl ?_
      refine Ok_cond (fun e => nomatch e) (fun _ => Ok_cl1 (ghead_ok hgm) (Ok_nmz fun z1 hz1 => ?_))
      have hz1 : z1 = m0.head := hz1
      subst hz1
      refine Ok_ite (fun h => absurd h e3) (fun _ => ?_)
      refine Ok_ob2 ((gdelBranch_ok (show 100000 ≤ n by omega) hgm e (by show findR m0.refs name ≠ none; rw [e2]; simp)).mono (fun p hp => ?_))
      obtain ⟨p1, bs', p2⟩ := hp
      rw [p1]
      refine Ok_ite (fun h => absurd rfl h) (fun _ => Ok_ob6 ((save_ok (r := r0) (x := x0) hn h.gr hd0 p2 (.refl hgm.lt.gd)).mono (fun q hq => Ok.some' ?_)))
      rcases hq with ⟨q1, q2, q3⟩ | ⟨q1, q2, A2, root2, q3, q4, q5⟩
      · exact ⟨.inr q1, hb, .full q1 q3 h.wk (by rw [hroom]; omega)⟩
      · refine ⟨.inl q1, hb, ?_⟩
        have q3' : Gr q.2.2.1 q.2.2.2.1 q.2.2.2.2.1 q.2.1 A2 root2 ord0 K0 bs' (histOf z2) := by subst hz2; exact q3
        refine .went (by rw [q1]; decide) (mi_of q3'.toGm ?_ ?_ ?_ ?_ ?_ ?_) ⟨A2, root2, ord0, K0, bs', ⟨q3', by rw [q2, hz2]; exact h.xf, by rw [hz2]; exact h.wk⟩, .inr q4, by rw [hroom]; omega⟩
        · rw [hz2]; exact fun y hy => (hm.law y hy).2
        · have ha : atM z2 = atM m0 := by
            rw [hz2]
            unfold atM atH
            by_cases h5 : m0.head.name = []
            · rw [if_pos h5, if_pos h5]
            · rw [if_neg h5, if_neg h5, findR_without e3]
          rw [ha, hz2]; exact hm.mo
        · rw [hz2]
          intro h5 h6
          rw [findR_without e3] at h6
          have := hm.ub h5 h6
          show withoutR m0.refs name = []
          rw [this]; rfl
        · rw [hz2]; exact hm.im
        · rw [hz2]; exact hm.wk
        · rw [hz2]; exact hm.wm
/-- the model behind a move to a commit -/
def goM (m : RepoM) (to : Head) (q : Int) : RepoM := { m with room := m.room - (cost (snapN m.nodes q) + 1), head := to, index := snapN m.nodes q, work := snapN m.nodes q }
def goV (m : RepoM) (to : Head) (q : Int) : Int × RepoM := if m.head.merge ≠ 0 then (24, m) else if ¬ (m.index = snapN m.nodes (atM m) ∧ m.work = m.index) then (22, m) else (0, goM m to q)
theorem goto_m {to : Head} {q : Int} (hn : 100010 ≤ n) (hm : MI m0) (hlax : m0.lax = true) (hrm : -1152921504606846976 ≤ m0.room ∧ m0.room ≤ 48) : m145 n m0 to q = some (goV m0 to q) := by
  have hs := (hm.snap q).1
  have hcr := cost_rng hs
  have hnn := hm.wn.len
  have hsn := hs.num
  refine Ok.eq ?_
  unfold m145 goV
  refine Ok_ite (fun e => Ok.some' (by rw [if_pos e])) (fun e => ?_)
  rw [if_neg e]
  refine Ok_cl1 (clean_m (by omega) hm) (Ok_iteN (fun e2 => ?_) (fun e2 => ?_))
  · rw [if_pos (of_decide_eq_false e2)]; exact Ok.some' rfl
  rw [if_neg (fun h => h (of_decide_eq_true e2))]
  refine Ok_cl1 (snap_m (by omega) (by omega) q) (Ok_cl1 (cost_ok (by omega) hs) ?_)
  rw [wi_e (x := cost (snapN m0.nodes q) + 1) (by omega) (by omega)]
  refine Ok_cl2 (pay_m hlax) ?_
  rw [wi_e (x := m0.room - (cost (snapN m0.nodes q) + 1)) (by omega) (by omega)]
  refine Ok_cond (fun e => nomatch e) (fun _ => Ok_nm (Ok_cl1 (copyFiles_ok (by omega) (by omega)) (Ok_nm (Ok_cl1 (copyFiles_ok (by omega) (by omega)) (Ok_nm (Ok.some' rfl))))))
theorem goto_c {to : Head} {q : Int} (hn : 100010 ≤ n) (h : Sys t0 s0 d0 g0 x0 r0 A0 root ord0 K0 bs0 m0) (hm : MI m0) (hlax : m0.lax = true) (hrm : -1152921504606846976 ≤ m0.room ∧ m0.room ≤ 48) (hd0 : d0.at_.length ≤ 1000)
    (hto : (to.name ≠ [] ∧ goodN to.name = true ∧ findR m0.refs to.name ≠ none ∧ to.seq = 0) ∨ (to.name = [] ∧ ∃ x, x ∈ m0.nodes ∧ x.seq = to.seq)) (htm : to.merge = 0) :
    Ok (m144 n r0 g0 t0 s0 d0 x0 to q) (fun p => (p.1 = (goV m0 to q).1 ∨ p.1 = 5) ∧ Bnd m0 (goV m0 to q).2 ∧ Out m0 d0 A0 root ord0 K0 bs0 p.2.2.2.1 p.2.2.2.2.1 p.2.2.2.2.2.1 p.2.2.1 p.2.2.2.2.2.2 p.2.1 (goV m0 to q).2 p.1) := by
  have hs := (hm.snap q).1
  have hsm := (hm.snap q).2
  have hcr := cost_rng hs
  have hgm := h.gr.toGm
  unfold m144 goV
  refine Ok_cl1 (ghead_ok hgm) (Ok_nmz fun z1 hz1 => ?_)
  have hz1 : z1 = m0.head := hz1
  subst hz1
  refine Ok_ite (fun e => ?_) (fun e => ?_)
  · rw [if_pos e]; exact Ok.some' ⟨.inl rfl, .refl hlax, .same h hm (by show (24 : Int) ≠ 5; decide)⟩
  rw [if_neg e]
  have hat := at_r (r := r0) (show 100000 ≤ n by omega) hgm
  have hhs := hm.snap (atM m0)
  refine Ok_cl1 hat (Ok_cl1 (snap_r hn hgm _) (Ok_cl1 (clean_r hn h.xf h.wk hm hhs.1 hhs.2) (Ok_iteN (fun e2 => ?_) (fun e2 => ?_))))
  · have e2 : ¬ (m0.index = snapN m0.nodes (atM m0) ∧ m0.work = m0.index) := of_decide_eq_false e2
    rw [if_pos e2]; exact Ok.some' ⟨.inl rfl, .refl hlax, .same h hm (by show (22 : Int) ≠ 5; decide)⟩
  have e2 : m0.index = snapN m0.nodes (atM m0) ∧ m0.work = m0.index := of_decide_eq_true e2
  rw [if_neg (fun h => h e2)]
  refine Ok_cl1 (snap_r hn hgm q) ?_
  have hseq : (if to.name = [] then to.seq else 0) = to.seq := by
    rcases hto with ⟨h1, _, _, h2⟩ | ⟨h1, _⟩
    · rw [if_neg h1, h2]
    · rw [if_pos h1]
  refine Ok_ob2 ((gsetHead_ok (hd := to) (show 100000 ≤ n by omega) hgm (fun h1 => by rcases hto with h2 | h2; exact h2.2.1; exact absurd h2.1 h1) (fun h1 => by rcases hto with h2 | h2; exact absurd h1 h2.1; exact hgm.node.1 h2.2) (fun h1 => absurd htm h1)).mono (fun p hp => ?_))
  rw [hp.1]
  refine Ok_ite (fun h => absurd rfl h) (fun _ => ?_)
  have hp2 := hp.2
  rw [hseq] at hp2
  have hb : Bnd m0 (goM m0 to q) := ⟨hlax, .inl (by show m0.room - 300 ≤ m0.room - (cost _ + 1); omega), .inl (by show m0.room - (cost _ + 1) ≤ m0.room; omega), by show m0.nxt ≤ m0.nxt + 1; omega⟩
  have hroom : m0.room - (goM m0 to q).room = cost (snapN m0.nodes q) + 1 := by show m0.room - (m0.room - _) = _; omega
  refine Ok_ob6 ((seal_ok (r := r0) (x := x0) hn h.gr hd0 hp2 (.refl hgm.lt.gd) hs).mono (fun u hu => ?_))
  rcases hu with ⟨q1, q2, q3⟩ | ⟨q1, q2, A', root', q3, q4, q5⟩
  · rw [q1]
    exact Ok_ite (fun _ => Ok.some' ⟨.inr rfl, hb, .full rfl q3 h.wk (by rw [hroom]; exact q2)⟩) (fun e => absurd (show ¬ ((5 : Int) = 0) by decide) e)
  · rw [q1, q2]
    refine Ok_ite (fun e => absurd rfl e) (fun _ => Ok_ob2 ((take_ok (r := r0) (x := x0) (show 100000 ≤ n by omega) hs).mono (fun v hv => Ok.some' ⟨.inl rfl, hb, ?_⟩)))
    rw [plainF_id hsm] at hv
    have q3' : Gr u.2.2.1 u.2.2.2.1 u.2.2.2.2.1 u.2.1 A' root' ord0 K0 bs0 (histOf (goM m0 to q)) := q3
    refine .went (by show (0 : Int) ≠ 5; decide) (mi_of q3'.toGm (fun y hy => (hm.law y hy).2) (fun e => absurd htm e) (fun h1 h2 => ?_) (fun f hf => .inl (hsm f hf)) hs hsm) ⟨A', root', ord0, K0, bs0, ⟨q3', hv.2, hv.1⟩, .inr q4, by rw [hroom]; omega⟩
    rcases hto with h3 | h3
    · exact absurd h2 h3.2.2.1
    · exact absurd h3.1 h1
theorem switch_c {name : Str} (hn : 100010 ≤ n) (h : Sys t0 s0 d0 g0 x0 r0 A0 root ord0 K0 bs0 m0) (hm : MI m0) (hlax : m0.lax = true) (hrm : -1152921504606846976 ≤ m0.room ∧ m0.room ≤ 48) (hd0 : d0.at_.length ≤ 1000) :
    Ok (m62 n m0 name) (fun qm => Ok (m61 n r0 g0 t0 s0 d0 x0 name) (fun p => (p.1 = qm.1 ∨ p.1 = 5) ∧ Bnd m0 qm.2 ∧ Out m0 d0 A0 root ord0 K0 bs0 p.2.2.2.1 p.2.2.2.2.1 p.2.2.2.2.2.1 p.2.2.1 p.2.2.2.2.2.2 p.2.1 qm.2 p.1)) := by
  have hrl := hm.rl
  have hgm := h.gr.toGm
  have hsrt : m0.refs.Pairwise fun a b => sLt a.name b.name = true := refs_srt hgm.cur
  have hbr := gbranches_ok (show 100000 ≤ n by omega) hgm
  have hsq := seqOf_r (n := n) (p := name) (show 100000 ≤ n by omega) (show m0.refs.length ≤ 8 by omega) hsrt
  have same : ∀ e : Int, e ≠ 5 → Ok (some (e, r0, g0, t0, s0, d0, x0)) (fun p => (p.1 = e ∨ p.1 = 5) ∧ Bnd m0 m0 ∧ Out m0 d0 A0 root ord0 K0 bs0 p.2.2.2.1 p.2.2.2.2.1 p.2.2.2.2.2.1 p.2.2.1 p.2.2.2.2.2.2 p.2.1 m0 p.1) :=
    fun e he => Ok.some' ⟨.inl rfl, .refl hlax, .same h hm he⟩
  unfold m62 m61
  refine Ok_cl1 (goodName_ok (by omega)) (Ok_iteN (fun e => ?_) (fun e => ?_))
  · refine Ok.some' (Ok_cl1 (goodName_ok (by omega)) ?_)
    rw [e]; exact same 14 (by decide)
  refine Ok_ob1 ((findRef_ok (by omega) (by omega)).mono (fun i hi => ?_))
  rcases hi with ⟨rfl, e2⟩ | ⟨h0, h1, y, hy, hyn, e2⟩
  · refine Ok_ite (fun _ => Ok.some' (Ok_cl1 (goodName_ok (by omega)) ?_)) (fun h => absurd (show (-1 : Int) < 0 by decide) h)
    rw [e]
    refine Ok_cond (fun e => nomatch e) (fun _ => Ok_cl1 hbr ?_)
    show Ok (ob2 (m138 n m0.refs name) _) _
    rw [hsq, e2]
    refine Ok_cl2 rfl ?_
    exact Ok_cond (fun _ => same 16 (by decide)) (fun e => nomatch e)
  · refine Ok_ite (fun h => by omega) (fun _ => Ok_ix h0 h1 (fun z hz => ?_))
    obtain rfl := Option.some.inj (hy.symm.trans hz)
    refine Ok_ob2 ⟨_, goto_m hn hm hlax hrm, ?_⟩
    refine Ok.some' (Ok_cl1 (goodName_ok (by omega)) ?_)
    rw [e]
    refine Ok_cond (fun e => nomatch e) (fun _ => Ok_cl1 hbr ?_)
    show Ok (ob2 (m138 n m0.refs name) _) _
    rw [hsq, e2]
    refine Ok_cl2 rfl ?_
    refine Ok_cond (fun e => nomatch e) (fun _ => ?_)
    have hne : name ≠ [] := fun h => by have := (goodN_len e).1; rw [h] at this; exact absurd this (by decide)
    refine Ok_ob7 ((goto_c (to := { Head.zero with name := name }) (q := y.seq) hn h hm hlax hrm hd0 (.inl ⟨hne, e, by rw [e2]; simp, rfl⟩) rfl).mono (fun p hp => Ok.some' hp))
theorem checkout_c {q : Int} (hn : 100010 ≤ n) (h : Sys t0 s0 d0 g0 x0 r0 A0 root ord0 K0 bs0 m0) (hm : MI m0) (hlax : m0.lax = true) (hrm : -1152921504606846976 ≤ m0.room ∧ m0.room ≤ 48) (hd0 : d0.at_.length ≤ 1000) :
    Ok (m64 n m0 q) (fun qm => Ok (m63 n r0 g0 t0 s0 d0 x0 q) (fun p => (p.1 = qm.1 ∨ p.1 = 5) ∧ Bnd m0 qm.2 ∧ Out m0 d0 A0 root ord0 K0 bs0 p.2.2.2.1 p.2.2.2.2.1 p.2.2.2.2.2.1 p.2.2.1 p.2.2.2.2.2.2 p.2.1 qm.2 p.1)) := by
  have hnn := hm.wn.len
  have hgm := h.gr.toGm
  have hnode := node_ok hn hgm q
  have hH : (histOf m0).nodes = m0.nodes := rfl
  rw [hH] at hnode
  unfold m64 m63
  refine Ok_ob1 ((findNode_ok (by omega) (by omega)).mono (fun i hi => ?_))
  rcases hi with ⟨rfl, e2⟩ | ⟨h0, h1, y, hy, hyq, e2⟩
  · refine Ok_ite (fun _ => Ok.some' ?_) (fun h => absurd (show (-1 : Int) < 0 by decide) h)
    rw [hnode, e2]
    exact Ok_nm (Ok_ite (fun _ => Ok.some' ⟨.inl rfl, .refl hlax, .same h hm (by show (17 : Int) ≠ 5; decide)⟩) (fun h => absurd (show ¬ ((17 : Int) = 0) by decide) h))
  · refine Ok_ite (fun h => by omega) (fun _ => ?_)
    refine Ok_ob2 ⟨_, goto_m hn hm hlax hrm, Ok.some' ?_⟩
    rw [hnode, e2]
    refine Ok_nm (Ok_ite (fun h => absurd rfl h) (fun _ => ?_))
    refine Ok_ob7 ((goto_c (to := { Head.zero with seq := q }) (q := q) hn h hm hlax hrm hd0 (.inr ⟨rfl, y, (findN_some e2).1, hyq⟩) rfl).mono (fun p hp => Ok.some' hp))
end
end Go.Proofs.Qxb6500350aGreat
