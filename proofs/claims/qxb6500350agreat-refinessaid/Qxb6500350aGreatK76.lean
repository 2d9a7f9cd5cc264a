/- PLAIN LAW: THE REPOSITORY (9): MERGE, THE CALL. -/
import Derived.Test.Qxb6500350aGreatK75
set_option linter.unusedVariables false
set_option linter.unusedSimpArgs false
set_option maxHeartbeats 4000000
namespace Go.Proofs.Qxb6500350aGreat
open Go.Eng Go
theorem chkRow_5 (path : Str) (mode size : Int) (prev : List Str) : chkRow path mode size prev ≠ 5 := by
  unfold chkRow
  split
  · decide
  split
  · decide
  split
  · decide
  split
  · decide
  split <;> decide
theorem chkG_5 : ∀ (l : List File) (prev : List Str), chkG prev l ≠ 5
  | [], _ => by show (0 : Int) ≠ 5; decide
  | f :: r, prev => by
    unfold chkG
    split
    · exact chkG_5 r _
    · exact chkRow_5 _ _ _ _
theorem chkF_5 (l : List File) : chkF l ≠ 5 := by
  unfold chkF
  split
  · decide
  · exact chkG_5 _ _
section
variable {n : Nat} {t0 t : Trees} {s0 s : Store} {d0 d : Dev} {g0 g : Graph} {x x0 x1 : Index} {r r0 : RepoR} {A0 A : Int → Ob} {root : Int} {ord0 ord : List Int} {K0 K : Int → CI} {bs0 bs : List Brn} {m0 m m1 : RepoM} {H : Hist} {e0 : Engine}
/-- Merge up to the base -/
theorem merge_pre {name : Str} {y : Ref_} {P : Int × Int × RepoR × Engine × Graph × Trees × Store × Dev × Index → Prop} (hn : 100010 ≤ n) (h : Sys t0 s0 d0 g0 x0 r0 A0 root ord0 K0 bs0 m0) (hm : MI m0) (e : goodN name = true) (e2 : findR m0.refs name = some y) (e3 : ¬ atM m0 = 0) (e4 : m0.head.merge = 0) (e5 : m0.index = snapN m0.nodes (atM m0) ∧ m0.work = m0.index)
    (k : Ok (ob2 (m149 n g0 (atM m0) y.seq) fun c6 c7 =>
      cond (decide (c6 = y.seq)) (
      some ((0 : Int), (23 : Int), r0, e0, g0, t0, s0, d0, x0)) (
      ob1 (m128 n r0 g0 t0 s0 d0 y.seq) fun l3 =>
      cond (decide (c6 = (atM m0))) (
      ob7 (m150 n r0 g0 t0 s0 d0 x0 m0.head y.seq l3) fun c8 z2 z3 z4 z5 z6 z7 =>
      some ((0 : Int), c8, z2, e0, z3, z4, z5, z6, z7)) (
      ob1 (m128 n r0 g0 t0 s0 d0 c6) fun l4 =>
      ob3 (m151 n r0 e0 l4 (snapN m0.nodes (atM m0)) l3) fun l5 c9 z8 =>
      ob1 (m152 n l5) fun c10 =>
      cond (decide (¬ (c10 = 0))) (
      some ((0 : Int), c10, r0, z8, g0, t0, s0, d0, x0)) (
      ob5 (cond (decide ((0 : Int) < c9)) (
      ob2 (m153 n g0 ({ name := m0.head.name, seq := m0.head.seq, merge := y.seq } : Head)) fun c12 z13 =>
      some (c12, z13, t0, s0, d0)) (
      ob5 (m154 n r0 g0 t0 s0 d0 m0.head l5 (atM m0) y.seq) fun c13 z14 z15 z16 z17 =>
      some (c13, z14, z15, z16, z17))) fun c11 z9 z10 z11 z12 =>
      cond (decide (¬ (c11 = 0))) (
      ob5 (m131 n r0 z9 z10 z11 z12 x0 c11) fun c14 z18 z19 z20 z21 =>
      some ((0 : Int), c14, r0, z8, z18, z19, z20, z12, z21)) (
      ob6 (m123 n r0 z9 z10 z11 z12 x0 l5) fun c15 z22 z23 z24 z25 z26 =>
      cond (decide (¬ (c15 = 0))) (
      some ((0 : Int), c15, r0, z8, z22, z23, z24, z25, z26)) (
      ob2 (m155 n r0 z26 l5) fun z27 z28 =>
      some (c9, (0 : Int), z27, z8, z22, z23, z24, z25, z28))))))) P) : Ok (m65 n r0 e0 g0 t0 s0 d0 x0 name) P := by
  have hrl := hm.rl
  have hgm := h.gr.toGm
  have hsrt : m0.refs.Pairwise fun a b => sLt a.name b.name = true := refs_srt hgm.cur
  have hbr := gbranches_ok (show 100000 ≤ n by omega) hgm
  have hsq := seqOf_r (n := n) (p := name) (show 100000 ≤ n by omega) (show m0.refs.length ≤ 8 by omega) hsrt
  have hat := at_r (r := r0) (show 100000 ≤ n by omega) hgm
  have hhs := hm.snap (atM m0)
  unfold m65
  refine Ok_cl1 (goodName_ok (by omega)) ?_
  rw [e]
  refine Ok_cond (fun e => nomatch e) (fun _ => Ok_cl1 hbr ?_)
  show Ok (ob2 (m138 n m0.refs name) _) _
  rw [hsq, e2]
  refine Ok_cl2 rfl ?_
  refine Ok_cond (fun e => nomatch e) (fun _ => Ok_cl1 (ghead_ok hgm) (Ok_nmz fun z1 hz1 => ?_))
  have hz1 : z1 = m0.head := hz1
  subst hz1
  refine Ok_cl1 hat (Ok_ite (fun h => absurd h e3) (fun _ => Ok_ite (fun h => absurd e4 h) (fun _ => ?_)))
  refine Ok_cl1 (snap_r hn hgm _) (Ok_cl1 (clean_r hn h.xf h.wk hm hhs.1 hhs.2) ?_)
  have : decide (m0.index = snapN m0.nodes (atM m0) ∧ m0.work = m0.index) = true := decide_eq_true e5
  show Ok (cond (!(decide (m0.index = snapN m0.nodes (atM m0) ∧ m0.work = m0.index))) _ _) _
  rw [this]
  exact Ok_cond (fun e => nomatch e) (fun _ => k)
theorem merge_c {name : Str} (hn : 100010 ≤ n) (h : Sys t0 s0 d0 g0 x0 r0 A0 root ord0 K0 bs0 m0) (hm : MI m0) (hlax : m0.lax = true) (hrm : -1152921504606846976 ≤ m0.room ∧ m0.room ≤ 48) (hnx : m0.nxt < 1152921504606846976) (hd0 : d0.at_.length ≤ 1000) :
    Ok (m66 n m0 name) (fun qm => Ok (m65 n r0 e0 g0 t0 s0 d0 x0 name) (fun q => MOut n m0 d0 A0 root ord0 K0 bs0 qm q)) := by
  have hrl := hm.rl
  have hnn := hm.wn.len
  have hgm := h.gr.toGm
  have hsrt : m0.refs.Pairwise fun a b => sLt a.name b.name = true := refs_srt hgm.cur
  have hbr := gbranches_ok (show 100000 ≤ n by omega) hgm
  have hsq := seqOf_r (n := n) (p := name) (show 100000 ≤ n by omega) (show m0.refs.length ≤ 8 by omega) hsrt
  have hat := at_r (r := r0) (show 100000 ≤ n by omega) hgm
  have hhs := hm.snap (atM m0)
  have same : ∀ (e : Int) (z : Engine), e ≠ 5 → Ok (some ((0 : Int), e, r0, z, g0, t0, s0, d0, x0)) (fun q => MOut n m0 d0 A0 root ord0 K0 bs0 ((0 : Int), e, m0) q) :=
    fun e z he => Ok.some' ⟨.inr ⟨rfl, rfl, he⟩, .refl hlax, .same h hm he⟩
  unfold m66
  refine Ok_cl1 (goodName_ok (by omega)) (Ok_iteN (fun e => ?_) (fun e => ?_))
  · unfold m65
    refine Ok.some' (Ok_cl1 (goodName_ok (by omega)) ?_)
    rw [e]; exact same 14 e0 (by decide)
  refine Ok_ob1 ((findRef_ok (by omega) (by omega)).mono (fun i hi => ?_))
  rcases hi with ⟨rfl, e2⟩ | ⟨h0, h1, y, hy, hyn, e2⟩
  · refine Ok_ite (fun _ => Ok.some' ?_) (fun h => absurd (show (-1 : Int) < 0 by decide) h)
    unfold m65
    refine Ok_cl1 (goodName_ok (by omega)) ?_
    rw [e]
    refine Ok_cond (fun e => nomatch e) (fun _ => Ok_cl1 hbr ?_)
    show Ok (ob2 (m138 n m0.refs name) _) _
    rw [hsq, e2]
    refine Ok_cl2 rfl ?_
    exact Ok_cond (fun _ => same 16 e0 (by decide)) (fun e => nomatch e)
  refine Ok_ite (fun h => by omega) (fun _ => Ok_cl1 (at_m (by omega) (by omega)) (Ok_ix h0 h1 (fun z hz => ?_)))
  obtain rfl := Option.some.inj (hy.symm.trans hz)
  have hth := (hm.rg y (findR_some e2).1).2
  refine Ok_ite (fun e3 => Ok.some' ?_) (fun e3 => Ok_ite (fun e4 => Ok.some' ?_) (fun e4 => Ok_cl1 (clean_m (by omega) hm) (Ok_iteN (fun e5 => Ok.some' ?_) (fun e5 => ?_))))
  · unfold m65
    refine Ok_cl1 (goodName_ok (by omega)) ?_
    rw [e]
    refine Ok_cond (fun e => nomatch e) (fun _ => Ok_cl1 hbr ?_)
    show Ok (ob2 (m138 n m0.refs name) _) _
    rw [hsq, e2]
    refine Ok_cl2 rfl ?_
    refine Ok_cond (fun e => nomatch e) (fun _ => Ok_cl1 (ghead_ok hgm) (Ok_nmz fun z1 hz1 => ?_))
    have hz1 : z1 = m0.head := hz1
    subst hz1
    exact Ok_cl1 hat (Ok_ite (fun _ => same 17 e0 (by decide)) (fun h => absurd e3 h))
  · unfold m65
    refine Ok_cl1 (goodName_ok (by omega)) ?_
    rw [e]
    refine Ok_cond (fun e => nomatch e) (fun _ => Ok_cl1 hbr ?_)
    show Ok (ob2 (m138 n m0.refs name) _) _
    rw [hsq, e2]
    refine Ok_cl2 rfl ?_
    refine Ok_cond (fun e => nomatch e) (fun _ => Ok_cl1 (ghead_ok hgm) (Ok_nmz fun z1 hz1 => ?_))
    have hz1 : z1 = m0.head := hz1
    subst hz1
    exact Ok_cl1 hat (Ok_ite (fun h => absurd h e3) (fun _ => Ok_ite (fun _ => same 24 e0 (by decide)) (fun h => absurd e4 h)))
  · unfold m65
    refine Ok_cl1 (goodName_ok (by omega)) ?_
    rw [e]
    refine Ok_cond (fun e => nomatch e) (fun _ => Ok_cl1 hbr ?_)
    show Ok (ob2 (m138 n m0.refs name) _) _
    rw [hsq, e2]
    refine Ok_cl2 rfl ?_
    refine Ok_cond (fun e => nomatch e) (fun _ => Ok_cl1 (ghead_ok hgm) (Ok_nmz fun z1 hz1 => ?_))
    have hz1 : z1 = m0.head := hz1
    subst hz1
    refine Ok_cl1 hat (Ok_ite (fun h => absurd h e3) (fun _ => Ok_ite (fun h => absurd h e4) (fun _ => ?_)))
    refine Ok_cl1 (snap_r hn hgm _) (Ok_cl1 (clean_r hn h.xf h.wk hm hhs.1 hhs.2) ?_)
    show Ok (cond (!(decide (m0.index = snapN m0.nodes (atM m0) ∧ m0.work = m0.index))) _ _) _
    rw [e5]
    exact Ok_cond (fun _ => same 22 e0 (by decide)) (fun e => nomatch e)
  have e4 : m0.head.merge = 0 := Classical.not_not.1 e4
  have e5 : m0.index = snapN m0.nodes (atM m0) ∧ m0.work = m0.index := of_decide_eq_true e5
  have hpre := fun {P} k => merge_pre (e0 := e0) (P := P) hn h hm e e2 e3 e4 e5 k
  obtain ⟨p, hp0, hp1, hB2⟩ := base_r (show 100000 ≤ n by omega) hgm hm.wn (hm.at_node.resolve_left e3) hth
  have hB2 : BaseN m0.nodes (atM m0) y.seq p.1 := hB2
  have hp0 : m149 n g0 (atM m0) y.seq = some (p.1, p.2) := hp0
  refine Ok_ob1 ((baseOf_ok (show 100000 ≤ n by omega) hm.wn).mono (fun q hB => ?_))
  have hB : BaseN m0.nodes (atM m0) y.seq q := hB
  obtain rfl : p.1 = q := hB2.uniq hB
  have hsth := hm.snap y.seq
  have hsb := hm.snap p.1
  refine Ok_ite (fun e6 => Ok.some' (hpre ?_)) (fun e6 => Ok_ite (fun e7 => ?_) (fun e7 => ?_))
  · exact Ok_cl2 hp0 (Ok_ite (fun _ => same 23 e0 (by decide)) (fun h => absurd e6 h))
  · -- fast forward
    have hcr := cost_rng hsth.1
    have hsn := hsth.1.num
    refine Ok_cl1 (snap_m (by omega) (by omega) _) (Ok_cl1 (cost_ok (by omega) hsth.1) ?_)
    rw [wi_e (x := cost (snapN m0.nodes y.seq) + 1) (by omega) (by omega)]
    refine Ok_cl2 (pay_m hlax) ?_
    rw [wi_e (x := m0.room - (cost (snapN m0.nodes y.seq) + 1)) (by omega) (by omega)]
    refine Ok_cond (fun e => nomatch e) (fun _ => ?_)
    refine Ok_cl1 (move_m (m := { m0 with room := m0.room - (cost (snapN m0.nodes y.seq) + 1) }) (by omega) (by show m0.refs.length < 10000; omega)) ?_
    refine Ok_cl1 (copyFiles_ok (by omega) (by omega)) (Ok_nm (Ok_cl1 (copyFiles_ok (by omega) (by omega)) (Ok_nm (Ok.some' (hpre ?_)))))
    rw [moveH_eq]
    show Ok _ (fun q => MOut n m0 d0 A0 root ord0 K0 bs0 ((0 : Int), (0 : Int), ffM m0 y.seq) q)
    refine Ok_cl2 hp0 (Ok_ite (fun h => absurd h e6) (fun _ => Ok_cl1 (snap_r hn hgm _) (Ok_ite (fun _ => ?_) (fun h => absurd e7 h))))
    refine Ok_ob7 ((forward_ok hn h hm hlax hd0 hth e4).mono (fun u hu => Ok.some' ⟨?_, hu.2.1, hu.2.2⟩))
    rcases hu.1 with h | h
    · exact .inr ⟨rfl, h, fun e => absurd (h.symm.trans e) (by decide)⟩
    · exact .inl ⟨h, rfl⟩
  · have sz : ∀ {l : List File}, Law l → ∀ f, f ∈ l → f.data.length ≤ 1024 := fun hl f hf => Nat.le_trans (hl.size f hf) (by decide)
    have n1 := hsb.1.num
    have n2 := hhs.1.num
    have n3 := hsth.1.num
    refine Ok_cl1 (snap_m (by omega) (by omega) _) (Ok_cl1 (snap_m (by omega) (by omega) _) (Ok_cl1 (snap_m (by omega) (by omega) _) ?_))
    have hmf : m159 n (snapN m0.nodes p.1) (snapN m0.nodes (atM m0)) (snapN m0.nodes y.seq) = some ((mrgN n (snapN m0.nodes p.1) (snapN m0.nodes (atM m0)) (snapN m0.nodes y.seq)).1, (mrgN n (snapN m0.nodes p.1) (snapN m0.nodes (atM m0)) (snapN m0.nodes y.seq)).2) := mergeFiles_ok (by omega) (by omega) (by omega) (by omega) (sz hsb.1) (sz hhs.1) (sz hsth.1)
    have hk := (mrgL_b (n := n) (b := snapN m0.nodes p.1) (o := snapN m0.nodes (atM m0)) (t := snapN m0.nodes y.seq) ((upaths (snapN m0.nodes p.1) (snapN m0.nodes (atM m0)) (snapN m0.nodes y.seq)).map (·.path))).2.1
    have hmd := mrgL_mode (n := n) (b := snapN m0.nodes p.1) (o := snapN m0.nodes (atM m0)) (t := snapN m0.nodes y.seq) ((upaths (snapN m0.nodes p.1) (snapN m0.nodes (atM m0)) (snapN m0.nodes y.seq)).map (·.path))
    obtain ⟨e', hwv⟩ := weave_ok (r := r0) (e := e0) (show 100000 ≤ n by omega) hsb.1 hhs.1 hsth.1 hsb.2 hhs.2 hsth.2
    have hk : 0 ≤ (mrgN n (snapN m0.nodes p.1) (snapN m0.nodes (atM m0)) (snapN m0.nodes y.seq)).2 := hk
    have hmd : ∀ f, f ∈ (mrgN n (snapN m0.nodes p.1) (snapN m0.nodes (atM m0)) (snapN m0.nodes y.seq)).1 → f.mode = 0 ∨ (f.mode = 1 ∧ 0 < (mrgN n (snapN m0.nodes p.1) (snapN m0.nodes (atM m0)) (snapN m0.nodes y.seq)).2) := hmd
    generalize mrgN n (snapN m0.nodes p.1) (snapN m0.nodes (atM m0)) (snapN m0.nodes y.seq) = M at hmf hk hmd hwv
    refine Ok_cl2 hmf (Ok_cl1 (checkFiles_ok (by omega)) (Ok_ite (fun e8 => Ok.some' (hpre ?_)) (fun e8 => ?_)))
    · refine Ok_cl2 hp0 (Ok_ite (fun h => absurd h e6) (fun _ => Ok_cl1 (snap_r hn hgm _) (Ok_ite (fun h => absurd h e7) (fun _ => Ok_cl1 (snap_r hn hgm _) (Ok_cl3 hwv (Ok_cl1 (checkFiles_ok (by omega)) (Ok_ite (fun _ => same _ e' ?_) (fun h => absurd e8 h))))))))
      exact chkF_5 M.1
    · have hl : Law M.1 := chkF_iff.1 (Classical.not_not.1 e8)
      refine (ends_m (th := y.seq) hn hm hlax hrm hnx hl hk).mono (fun qm hqm => ?_)
      subst hqm
      refine hpre (Ok_cl2 hp0 (Ok_ite (fun h => absurd h e6) (fun _ => Ok_cl1 (snap_r hn hgm _) (Ok_ite (fun h => absurd h e7) (fun _ => Ok_cl1 (snap_r hn hgm _) (Ok_cl3 hwv (Ok_cl1 (checkFiles_ok (by omega)) (Ok_ite (fun h => absurd h e8) (fun _ => ?_)))))))))
      refine ends_r hn h hm hlax hd0 hnx hl hk hmd hth e3 (fun h9 => ?_)
      rw [h9] at hB
      have := hB.self hm.wn hth
      exact e6 this
end
end Go.Proofs.Qxb6500350aGreat
