/- PLAIN LAW: THE REPOSITORY (10): COLLECT. -/
import Derived.Test.Qxb6500350aGreatK79
set_option linter.unusedVariables false
set_option linter.unusedSimpArgs false
set_option maxHeartbeats 2000000
namespace Go.Proofs.Qxb6500350aGreat
open Go.Eng Go
section
variable {n : Nat} {t0 t : Trees} {s0 s : Store} {d0 d : Dev} {g0 g : Graph} {x x0 x1 : Index} {r r0 : RepoR} {A0 A : Int → Ob} {root : Int} {ord0 ord : List Int} {K0 K : Int → CI} {bs0 bs : List Brn} {m0 m m1 : RepoM} {H : Hist}
theorem roots_iff (h : Gm t s d g A root ord K bs H) {i : Int} (hi : i ∈ ord) : rootsP g bs i ↔ (K i).seq ∈ rootsN H.refs H.head := by
  have ht := h.tab
  have hc := h.cur
  have hrefs := hc.refs
  unfold rootsN rootsP
  rw [List.mem_append, List.mem_append, hrefs, List.map_map, List.mem_map]
  have e1 : (∃ b, b ∈ bs ∧ b.id = i) ↔ ∃ b, b ∈ bs ∧ ((fun r : Ref_ => r.seq) ∘ toRef fun i => (K i).seq) b = (K i).seq := by
    constructor
    · rintro ⟨b, hb, rfl⟩; exact ⟨b, hb, rfl⟩
    · rintro ⟨b, hb, e⟩; exact ⟨b, hb, ht.inj (hc.bid b hb).1 hi e⟩
  have e2 : (g.name = [] ∧ i = g.at_) ↔ (K i).seq ∈ (if H.head.name = [] then [H.head.seq] else []) := by
    rw [hc.hn]
    rcases hc.hat with ⟨h1, _⟩ | ⟨h1, h2, h3⟩
    · rw [if_neg h1]; simp [h1]
    · rw [if_pos h1, List.mem_singleton, h3]
      exact ⟨fun h => by rw [h.2], fun h => ⟨h1, ht.inj hi h2 h⟩⟩
  have e3 : (g.merge ≠ 0 ∧ i = g.merge) ↔ (K i).seq ∈ (if H.head.merge ≠ 0 then [H.head.merge] else []) := by
    rcases hc.hm with ⟨h1, h2⟩ | ⟨h1, h2⟩
    · rw [if_neg (fun h => h h1)]; simp [h2]
    · have h3 := (ht.seq g.merge h1).1
      have h4 := (ht.rng h1).1
      rw [if_pos (show H.head.merge ≠ 0 by omega), List.mem_singleton, h2]
      exact ⟨fun h => by rw [h.2], fun h => ⟨by omega, ht.inj hi h1 h⟩⟩
  rw [e1, e2, e3]
open Classical in
/-- the model behind Collect -/
noncomputable def colM (n : Nat) (m : RepoM) : RepoM := { m with nodes := m.nodes.filter fun x => decide (AncN m.nodes (rootsN m.refs m.head) x.seq), room := 48 - stayN n (m.nodes.filter fun x => decide (AncN m.nodes (rootsN m.refs m.head) x.seq)) m.index }
open Classical in
theorem collect_m (hn : 100010 ≤ n) (hm : MI m0) (hlax : m0.lax = true) (hb : 0 ≤ stayN n (m0.nodes.filter fun x => decide (AncN m0.nodes (rootsN m0.refs m0.head) x.seq)) m0.index ∧ stayN n (m0.nodes.filter fun x => decide (AncN m0.nodes (rootsN m0.refs m0.head) x.seq)) m0.index ≤ 1000000) :
    m68 n m0 = some (48 - (colM n m0).room, 0, colM n m0) := by
  have hnn := hm.wn.len
  refine Ok.eq ?_
  unfold m68
  rw [hlax]
  refine Ok_cond (fun e => nomatch e) (fun _ => Ok_cl1 (keep_ok (by omega) hm.wn hm.rl) (Ok_nm ?_))
  have hfl := List.length_filter_le (fun x : Node => decide (AncN m0.nodes (rootsN m0.refs m0.head) x.seq)) m0.nodes
  refine Ok_cl1 (stay_ok (by omega) (show (m0.nodes.filter _).length ≤ 40 by omega) (fun y hy => (hm.law y (List.mem_filter.1 hy).1).1) hm.ix) (Ok_nm (Ok.some' ?_))
  unfold colM
  dsimp only
  rw [wi_e (by omega) (by omega)]
  rw [hlax]
  refine Prod.ext ?_ rfl
  show _ = 48 - (48 - _)
  omega
theorem stayN_b {nodes : List Node} {aux : List File} (hl : nodes.length ≤ 40) (h : ∀ x, x ∈ nodes → Law x.files) (ha : Law aux) : 0 ≤ stayN n nodes aux ∧ stayN n nodes aux ≤ 1000000 := by
  have hlaw : ∀ l, l ∈ nodes.map (·.files) ++ [aux] → Law l := by
    intro l hl
    rcases List.mem_append.1 hl with hl | hl
    · obtain ⟨x, hx, rfl⟩ := List.mem_map.1 hl; exact h x hx
    · rw [List.mem_singleton.1 hl]; exact ha
  have hsl : (nodes.map (·.files) ++ [aux]).length ≤ 100 := by simp; omega
  have b1 := addAllO_len (l := ((nodes.map (·.files) ++ [aux]).flatMap fun l => l).map (·.data)) (set := [])
  have b2 := addAllO_len (l := (nodes.map (·.files) ++ [aux]).flatMap fun l => (dirsL l).map fun d => keyS n (subV l d)) (set := [])
  have c1 : ∀ (q : List (List File)), (∀ l, l ∈ q → Law l) → (q.flatMap fun l => l).length ≤ 8 * q.length ∧ (q.flatMap fun l => (dirsL l).map fun d => keyS n (subV l d)).length ≤ 97 * q.length := by
    intro q
    induction q with
    | nil => intro _; simp
    | cons a q ih =>
      intro hq
      have h1 := (hq a (by simp)).num
      have h2 := dirsL_len (hq a (by simp))
      have h3 := ih (fun l hl => hq l (List.mem_cons_of_mem _ hl))
      simp only [List.flatMap_cons, List.length_append, List.length_map, List.length_cons] at h3 ⊢
      omega
  have := c1 _ hlaw
  rw [List.length_map] at b1
  simp only [List.length_nil] at b1 b2
  unfold stayN datsW keysW
  generalize (((nodes.map (·.files) ++ [aux]).flatMap fun l => l).map (·.data)).foldl addO [] = D1 at b1 ⊢
  generalize ((nodes.map (·.files) ++ [aux]).flatMap fun l => (dirsL l).map fun d => keyS n (subV l d)).foldl addO [] = D2 at b2 ⊢
  omega
open Classical in
theorem collect_c (hn : 100010 ≤ n) (h : Sys t0 s0 d0 g0 x0 r0 A0 root ord0 K0 bs0 m0) (hm : MI m0) (hlax : m0.lax = true) (hd0 : d0.at_.length ≤ 1000) :
    Ok (m68 n m0) (fun qm => Ok (m67 n r0 g0 t0 s0 d0 x0) (fun q => Bnd m0 qm.2.2 ∧ ((q.1 = 0 ∧ q.2.1 = 5 ∧ Fell m0 d0 A0 root ord0 K0 bs0 q.2.2.2.1 q.2.2.2.2.1 q.2.2.2.2.2.1 q.2.2.1 q.2.2.2.2.2.2 ∧ nfr A0 = 0) ∨
      (q.1 = qm.1 ∧ q.2.1 = 0 ∧ qm.2.1 = 0 ∧ MI qm.2.2 ∧ ∃ A' root' ord' K' bs', Sys q.2.2.2.1 q.2.2.2.2.1 q.2.2.2.2.2.1 q.2.2.1 q.2.2.2.2.2.2 r0 A' root' ord' K' bs' qm.2.2 ∧ Done d0 A0 q.2.2.2.2.2.1 A' root' ∧ qm.2.2.room = (nfr A' : Int))))) := by
  have hgm := h.gr.toGm
  have ht := hgm.tab
  have hnn := hm.wn.len
  have hnodes : m0.nodes = ord0.map (nodeOf K0) := hgm.nodes
  have hb := stayN_b (n := n) (nodes := (colM n m0).nodes) (aux := m0.index) (by have := List.length_filter_le (fun x : Node => @decide (AncN m0.nodes (rootsN m0.refs m0.head) x.seq) (Classical.propDecidable _)) m0.nodes; show (m0.nodes.filter _).length ≤ 40; omega) (fun y hy => (hm.law y (List.mem_filter.1 hy).1).1) hm.ix
  refine ⟨_, collect_m hn hm hlax hb, ?_⟩
  have hbnd : Bnd m0 (colM n m0) := by
    refine ⟨hlax, ?_, .inr ?_, by show m0.nxt ≤ m0.nxt + 1; omega⟩
    · right
      show -2000000 ≤ 48 - stayN n (colM n m0).nodes m0.index
      omega
    · show 48 - stayN n (colM n m0).nodes m0.index ≤ 48
      omega
  have key : (ord0.filter fun x => @decide (Anc (fun i => (K0 i).ps) (rootsP g0 bs0) x) (Classical.propDecidable _)).map (nodeOf K0) = (colM n m0).nodes := by
    show _ = m0.nodes.filter _
    rw [hnodes, List.filter_map]
    congr 1
    refine List.filter_congr (fun i hi => ?_)
    have hbr := anc_bridge (ord := ord0) (K := K0) (S := rootsP g0 bs0) (roots := rootsN m0.refs m0.head) (fun i hi p hp => ((ht.ps i hi).2 p hp).1) (fun i j hi hj e => ht.inj hi hj e) (fun i hi => hgm.roots_in hi) (fun i hi => roots_iff hgm hi) (by rw [← hnodes]; exact hm.wn) i hi
    show decide _ = decide _
    exact decide_eq_decide.2 hbr
  unfold m67
  refine Ok_ob6 ((gcollect_ok hn h.gr (by omega)).mono (fun p hp => ?_))
  rcases hp with ⟨rfl, hz⟩ | ⟨g', t', s', d', A', root', rfl, hgr, hdn, hex⟩
  · refine Ok_ite (fun _ => Ok_ob5 ((back_ok (r := r0) (x := x0) (e := 5) hn h.gr hd0 hgm.lt (.refl hgm.lt.gd)).mono (fun q hq => Ok.some' ⟨hbnd, .inl ⟨rfl, hq.1, hq.2, hz⟩⟩))) (fun e => absurd (show ¬ ((5 : Int) = 0) by decide) e)
  · refine Ok_ite (fun e => absurd rfl e) (fun _ => Ok.some' ⟨hbnd, .inr ?_⟩)
    rw [key] at hgr
    have hgr' : Gr t' s' d' g' A' root' _ K0 bs0 (histOf (colM n m0)) := hgr
    have hcnt := live_count (show 100000 ≤ n by omega) hgr' hex
    have hfl := free_live hgr'.rest
    have hroom : (colM n m0).room = (nfr A' : Int) := by
      show 48 - stayN n (colM n m0).nodes m0.index = _
      have : (nlv A' : Int) = stayN n (colM n m0).nodes m0.index := hcnt
      omega
    refine ⟨?_, rfl, rfl, mi_of hgr'.toGm (fun y hy => (hm.law y (List.mem_filter.1 hy).1).2) hm.mo hm.ub hm.im hm.wk hm.wm, A', root', _, K0, bs0, ⟨hgr', h.xf, h.wk⟩, hdn, hroom⟩
    show 48 - (nfr A' : Int) = 48 - (colM n m0).room
    rw [hroom]
end
end Go.Proofs.Qxb6500350aGreat
