/- PLAIN LAW: THE STATE OF THE GRAPH LAYER; ITS OBSERVERS. -/
import Derived.Test.Qxb6500350aGreatK38
import Derived.Test.Qxb6500350aGreatT146
set_option linter.unusedVariables false
set_option linter.unusedSimpArgs false
set_option maxHeartbeats 1000000
namespace Go.Proofs.Qxb6500350aGreat
open Go.Eng Go
/-- what is known of a commit -/
structure CI where
  seq : Int
  tree : Int
  ps : List Int
  msg : Str
  files : List File
/-- the abstract history -/
structure Hist where
  nodes : List Node
  nxt : Int
  refs : List Ref_
  head : Head
  aux : List File
abbrev isCo (A : Int → Ob) (i : Int) : Prop := 1 ≤ i ∧ i ≤ 48 ∧ (A i).lv ∧ (A i).kind = 3
abbrev isRf (A : Int → Ob) (i : Int) : Prop := 1 ≤ i ∧ i ≤ 48 ∧ (A i).lv ∧ (A i).kind = 4
structure Tab (g : Graph) (A : Int → Ob) (ord : List Int) (K : Int → CI) : Prop where
  od : Ordr g ord
  le : ord.length ≤ 40
  com : ∀ i, i ∈ ord → g.com i = mkCom (K i).seq (K i).tree (K i).ps
  noc : ∀ i, 0 ≤ i → i ≤ 48 → i ∉ ord → g.com i = Com.zero
  ob : ∀ i, i ∈ ord ↔ isCo A i
  dat : ∀ i, i ∈ ord → (A i).data = cbytes (K i).seq (K i).tree (K i).ps (K i).msg
  seq : ∀ i, i ∈ ord → 1 ≤ (K i).seq ∧ (K i).seq < g.nxt
  ps : ∀ i, i ∈ ord → (K i).ps.length ≤ 2 ∧ ∀ p, p ∈ (K i).ps → p ∈ ord ∧ (K p).seq < (K i).seq
  msg : ∀ i, i ∈ ord → (K i).msg.length ≤ 16
  tv : ∀ i, i ∈ ord → TV A (K i).tree (K i).files
  law : ∀ i, i ∈ ord → Law (K i).files
  nx : 1 ≤ g.nxt ∧ g.nxt < 2305843009213693952
def nodeOf (K : Int → CI) (i : Int) : Node := { seq := (K i).seq, files := (K i).files, parents := (K i).ps.map fun p => (K p).seq, msg := (K i).msg }
/-- branches and head -/
structure Cur (g : Graph) (ord : List Int) (K : Int → CI) (bs : List Brn) (refs : List Ref_) (head : Head) : Prop where
  brs : Brs g bs
  bid : ∀ b, b ∈ bs → b.id ∈ ord ∧ goodN b.name = true
  bsrt : bs.Pairwise fun a b => sLt a.name b.name = true
  refs : refs = bs.map (toRef fun i => (K i).seq)
  hn : g.name = head.name
  hat : (head.name ≠ [] ∧ goodN head.name = true ∧ g.at_ = 0 ∧ head.seq = 0) ∨ (head.name = [] ∧ g.at_ ∈ ord ∧ head.seq = (K g.at_).seq)
  hm : (head.merge = 0 ∧ g.merge = 0) ∨ (g.merge ∈ ord ∧ head.merge = (K g.merge).seq)
/-- the state amid a command -/
structure Gm (t : Trees) (s : Store) (d : Dev) (g : Graph) (A : Int → Ob) (root : Int) (ord : List Int) (K : Int → CI) (bs : List Brn) (H : Hist) : Prop where
  lt : LT t s d A root
  tab : Tab g A ord K
  cur : Cur g ord K bs H.refs H.head
  aux : TV A g.aux H.aux
  laux : Law H.aux
  nodes : H.nodes = ord.map (nodeOf K)
  nxt : H.nxt = g.nxt
  rk : isRf A root
  ruq : ∀ i, isRf A i → i = root
/-- the state between commands -/
structure Gr (t : Trees) (s : Store) (d : Dev) (g : Graph) (A : Int → Ob) (root : Int) (ord : List Int) (K : Int → CI) (bs : List Brn) (H : Hist) : Prop extends Gm t s d g A root ord K bs H where
  rest : Rest A
  rdat : (A root).data = rbytes g.nxt g.aux g.name g.at_ g.merge bs
theorem Tab.fam {g : Graph} {A : Int → Ob} {ord : List Int} {K : Int → CI} (h : Tab g A ord K) : Fam g ord (fun i => (K i).ps) where
  np := fun i hi => by
    have hc := h.com i hi
    exact ⟨by rw [hc]; rfl, (h.ps i hi).1⟩
  get := fun i hi k k0 k1 => by
    rw [h.com i hi, ← par_get k0 k1]; rfl
  lo := fun i hi p hp => by
    have h1 := (h.ps i hi).2 p hp
    rw [h.com i hi, h.com p h1.1]
    exact h1
theorem Tab.comseq {g : Graph} {A : Int → Ob} {ord : List Int} {K : Int → CI} (h : Tab g A ord K) {i : Int} (hi : i ∈ ord) : (g.com i).seq = (K i).seq := by rw [h.com i hi]; rfl
theorem Tab.inj {g : Graph} {A : Int → Ob} {ord : List Int} {K : Int → CI} (h : Tab g A ord K) {i j : Int} (hi : i ∈ ord) (hj : j ∈ ord) (he : (K i).seq = (K j).seq) : i = j := by
  obtain ⟨a, a0, a1, a2⟩ := mem_idx hi
  obtain ⟨b, b0, b1, b2⟩ := mem_idx hj
  have e1 := h.comseq hi
  have e2 := h.comseq hj
  rw [h.od.oget a a0 a1] at a2
  rw [h.od.oget b b0 b1] at b2
  have e3 := Option.some.inj a2
  have e4 := Option.some.inj b2
  subst e3 e4
  rcases Int.lt_trichotomy a b with h1 | h1 | h1
  · have := h.od.lt a0 h1 b1; omega
  · rw [h1]
  · have := h.od.lt b0 h1 a1; omega
/-- the node of that Seq -/
def findN (l : List Node) (q : Int) : Option Node := l.find? fun x => decide (x.seq = q)
section
variable {n : Nat} {t : Trees} {s : Store} {d : Dev} {g : Graph} {A : Int → Ob} {root : Int} {ord : List Int} {K : Int → CI} {bs : List Brn} {H : Hist}
theorem Tab.find (h : Tab g A ord K) (hn : 100000 ≤ n) (q : Int) : Ok (m211 n g q) (fun r => (r = 0 ∧ findN (ord.map (nodeOf K)) q = none) ∨ (r ∈ ord ∧ (K r).seq = q ∧ findN (ord.map (nodeOf K)) q = some (nodeOf K r))) := by
  refine Ok.mono (find_ok' hn h.od q) (fun r hr => ?_)
  rcases hr with ⟨rfl, hno⟩ | ⟨hr1, hr2⟩
  · refine .inl ⟨rfl, List.find?_eq_none.2 fun x hx => ?_⟩
    obtain ⟨i, hi, rfl⟩ := List.mem_map.1 hx
    have := hno i hi
    rw [h.comseq hi] at this
    exact fun e => this (of_decide_eq_true e)
  · rw [h.comseq hr1] at hr2
    refine .inr ⟨hr1, hr2, ?_⟩
    cases hf : findN (ord.map (nodeOf K)) q with
    | none =>
      have := List.find?_eq_none.1 hf (nodeOf K r) (List.mem_map_of_mem hr1)
      simp [nodeOf, hr2] at this
    | some x =>
      have hx := List.mem_of_find?_eq_some hf
      have hq := List.find?_some hf
      obtain ⟨i, hi, rfl⟩ := List.mem_map.1 hx
      have hq : (K i).seq = q := of_decide_eq_true hq
      rw [h.inj hi hr1 (by omega)]
theorem Tab.rng (h : Tab g A ord K) {i : Int} (hi : i ∈ ord) : 1 ≤ i ∧ i ≤ 48 := h.od.rng i hi
theorem cget_ok (hn : 100000 ≤ n) (h : LT t s d A root) (ht : Tab g A ord K) {i : Int} (hi : i ∈ ord) : m219 n t s d i = some (3, cbytes (K i).seq (K i).tree (K i).ps (K i).msg, 0) := by
  have hc := (ht.ob i).1 hi
  rw [tget_ok hn h i, if_neg (fun e => by have := e.2.2.2; have := hc.2.2.2; omega), if_pos ⟨hc.1, hc.2.1, hc.2.2.1⟩, hc.2.2.2, ht.dat i hi]
theorem cdec_ok (hn : 100000 ≤ n) (ht : Tab g A ord K) {i : Int} (hi : i ∈ ord) : m220 n (cbytes (K i).seq (K i).tree (K i).ps (K i).msg) = some (mkCom (K i).seq (K i).tree (K i).ps, (K i).msg, true) := by
  have h1 := ht.seq i hi
  have h2 := ht.nx
  have h3 := (ht.tv i hi).1
  have h4 := ht.ps i hi
  have h5 := ht.msg i hi
  refine decodeCommit_ok hn (by omega) (by omega) (by have := h3.1; omega) (by have := h3.2.1; omega) h4.1 (fun p hp => ?_) (by omega)
  have := ht.rng (h4.2 p hp).1
  omega
theorem node_ok (hn : 100010 ≤ n) (h : Gm t s d g A root ord K bs H) (q : Int) : m146 n g t s d q = some (match findN H.nodes q with | some x => (x, 0) | none => (Node.zero, 17)) := by
  have ht := h.tab
  refine Ok.eq ?_
  unfold m146
  rw [h.nodes]
  refine Ok_ob1 (Ok.mono (ht.find (by omega) q) (fun r hr => ?_))
  rcases hr with ⟨rfl, hf⟩ | ⟨hr1, hr2, hf⟩
  · rw [hf]
    exact Ok_ite (fun _ => Ok_nm (Ok.some' rfl)) (fun e => absurd rfl e)
  · rw [hf]
    have hrg := ht.rng hr1
    have hps := ht.ps r hr1
    refine Ok_ite (fun e => by omega) (fun _ => Ok_ck (by omega) (by omega) (Ok_nm ?_))
    rw [ht.com r hr1]
    refine Ok_cl3 (cget_ok (by omega) h.lt ht hr1) (Ok_cl3 (cdec_ok (by omega) ht hr1) (Ok_nm (Ok_cl1 (snapshot_ok (by omega) h.lt (ht.tv r hr1)) (Ok_ob2 ?_))))
    unfold m146_w1
    refine Ok_it2 (fun (l : List Int) (c : Int) => 0 ≤ c ∧ c ≤ (K r).ps.length ∧ l = ((K r).ps.take c.toNat).map fun p => (K p).seq) (fun _ (c : Int) => (((K r).ps.length : Int) - c).toNat) ?_ n [] 0 ⟨by omega, by omega, by simp⟩ (by show (((K r).ps.length : Int) - 0).toNat < n; omega)
    rintro Q lp l c hQ ⟨i0, i1, rfl⟩ ih
    refine Ok_ite (fun hc => ?_) (fun hc => ?_)
    · have hc : c < (K r).ps.length := hc
      have hg : (K r).ps[c.toNat]? = some ((mkCom (K r).seq (K r).tree (K r).ps).par c) := (par_get i0 hc).symm
      have hpm := hps.2 _ (List.mem_of_getElem? hg)
      have hpr := ht.rng hpm.1
      refine Ok_ck (by omega) (by omega) (Ok_cl1 (seqOf_ok _) (Ok_apd (by rw [List.length_map, List.length_take]; omega) ?_))
      rw [if_pos hpr, ht.comseq hpm.1, wi_e (by omega) (by omega)]
      refine ih _ _ ⟨by omega, by omega, ?_⟩ (by omega)
      rw [show (c + 1).toNat = c.toNat + 1 by omega, List.take_add_one, hg, List.map_append]; rfl
    · have hc : ¬ c < (K r).ps.length := hc
      obtain rfl : c = (K r).ps.length := by omega
      refine Ok.some' (hQ _ (Ok_nm (Ok.some' ?_)))
      rw [Int.toNat_natCast, List.take_length]
      unfold nodeOf
      rw [hr2]
theorem gbranches_ok (hn : 100000 ≤ n) (h : Gm t s d g A root ord K bs H) : m137 n g = some H.refs := by
  rw [branches_ok hn h.cur.brs (fun b hb => h.tab.rng (h.cur.bid b hb).1), h.cur.refs]
  congr 1
  refine List.map_congr_left fun b hb => ?_
  show ({ name := b.name, seq := (g.com b.id).seq } : Ref_) = { name := b.name, seq := (K b.id).seq }
  rw [h.tab.comseq (h.cur.bid b hb).1]
theorem ghead_ok (h : Gm t s d g A root ord K bs H) : m126 n g = some H.head := by
  rw [head_ok]
  congr 1
  have hc := h.cur
  have h1 : sqo g g.at_ = H.head.seq := by
    unfold sqo
    rcases hc.hat with ⟨_, _, e, e2⟩ | ⟨_, e, e2⟩
    · rw [e, if_neg (by omega), e2]
    · rw [if_pos (h.tab.rng e), h.tab.comseq e, e2]
  have h2 : sqo g g.merge = H.head.merge := by
    unfold sqo
    rcases hc.hm with ⟨e, e2⟩ | ⟨e, e2⟩
    · rw [e2, if_neg (by omega), e]
    · rw [if_pos (h.tab.rng e), h.tab.comseq e, e2]
  rw [h1, h2, hc.hn]
theorem gseqs_ok (hn : 100000 ≤ n) (h : Gm t s d g A root ord K bs H) : m181 n g = some (H.nodes.map (·.seq)) := by
  rw [seqs_ok hn h.tab.od, h.nodes, List.map_map]
  congr 1
  exact List.map_congr_left fun i hi => h.tab.comseq hi
theorem gaux_ok (hn : 100010 ≤ n) (h : Gm t s d g A root ord K bs H) : m172 n g t s d = some H.aux := by
  refine Ok.eq ?_
  unfold m172
  exact Ok_cl1 (snapshot_ok hn h.lt h.aux) (Ok.some' rfl)
end
end Go.Proofs.Qxb6500350aGreat
