/- PLAIN LAW: WEIGHT (2): STAY IS THE NUMBER OF LIVE OBJECTS; COLLECT. -/
import Derived.Test.Qxb6500350aGreatK78
import Derived.Test.Qxb6500350aGreatT67
import Derived.Test.Qxb6500350aGreatT68
set_option linter.unusedVariables false
set_option linter.unusedSimpArgs false
set_option maxHeartbeats 2000000
namespace Go.Proofs.Qxb6500350aGreat
open Go.Eng Go
theorem same_len {α : Type} [DecidableEq α] {a b : List α} (ha : a.Nodup) (hb : b.Nodup) (h : ∀ x, x ∈ a ↔ x ∈ b) : a.length = b.length :=
  Nat.le_antisymm (nodup_sub_le ha fun x hx => (h x).1 hx) (nodup_sub_le hb fun x hx => (h x).2 hx)
theorem map_nodup {α β : Type} {f : α → β} {l : List α} (h : l.Nodup) (hi : ∀ a b, a ∈ l → b ∈ l → f a = f b → a = b) : (l.map f).Nodup := by
  rw [List.Nodup, List.pairwise_map]
  exact List.Pairwise.imp_of_mem (fun ha hb hne heq => hne (hi _ _ ha hb heq)) h
/-- the number of objects that must stay -/
def stayN (n : Nat) (nodes : List Node) (aux : List File) : Int := ((datsW (nodes.map (·.files) ++ [aux])).length : Int) + (keysW n (nodes.map (·.files) ++ [aux])).length + nodes.length + 1
section
variable {n : Nat} {t : Trees} {s : Store} {d : Dev} {g : Graph} {A : Int → Ob} {root : Int} {ord : List Int} {K : Int → CI} {bs : List Brn} {H : Hist}
theorem stay_ok {nodes : List Node} {aux : List File} (hn : 100000 ≤ n) (hl : nodes.length ≤ 40) (h : ∀ x, x ∈ nodes → Law x.files) (ha : Law aux) : m162 n nodes aux = some (stayN n nodes aux) := by
  refine Ok.eq ?_
  unfold m162
  refine Ok_ob2 ?_
  unfold m162_w1
  refine Ok_pre2 nodes (by omega) hn (fun pre z => z = pre.map (·.files)) rfl (fun Q lp z pre x r hQ e hI hlt hget hw ih => ?_) (fun Q lp z hQ hI => ?_)
  · subst hI
    have hpl := pre_len e
    refine Ok_ite (fun _ => Ok_ix (by omega) hlt (fun y hy => ?_)) (fun hh => absurd hlt hh)
    obtain rfl := hget y hy
    refine Ok_apd (by rw [List.length_map]; omega) ?_
    rw [hw]; exact ih _ (by simp)
  · subst hI
    refine Ok_ite (fun hh => absurd hh (by omega)) (fun _ => Ok.some' (hQ _ ?_))
    have hlaw : ∀ l, l ∈ nodes.map (·.files) ++ [aux] → Law l := by
      intro l hl
      rcases List.mem_append.1 hl with hl | hl
      · obtain ⟨x, hx, rfl⟩ := List.mem_map.1 hl; exact h x hx
      · rw [List.mem_singleton.1 hl]; exact ha
    have hsl : (nodes.map (·.files) ++ [aux]).length ≤ 100 := by simp; omega
    refine Ok_apd (by rw [List.length_map]; omega) (Ok_cl1 (weight_ok hn hsl hlaw) (Ok.some' ?_))
    have b1 := addAllO_len (l := ((nodes.map (·.files) ++ [aux]).flatMap fun l => l).map (·.data)) (set := [])
    have b2 := addAllO_len (l := (nodes.map (·.files) ++ [aux]).flatMap fun l => (dirsL l).map fun d => keyS n (subV l d)) (set := [])
    have c1 : ∀ (q : List (List File)), (∀ l, l ∈ q → Law l) → (q.flatMap fun l => l).length ≤ 8 * q.length ∧ (q.flatMap fun l => (dirsL l).map fun d => keyS n (subV l d)).length ≤ 97 * q.length := by
      intro q
      induction q with
      | nil => intro _; simp
      | cons a q ih =>
        intro hq
        have h1 := (hq a (by simp)).num
        have h2 := dirsL_len (hq a (by simp))
        have h3 := ih (fun l hl => hq l (List.mem_cons_of_mem _ hl))
        simp only [List.flatMap_cons, List.length_append, List.length_map, List.length_cons] at h3 ⊢
        omega
    have := c1 _ hlaw
    rw [List.length_map] at b1
    simp only [List.length_nil] at b1 b2
    dsimp only
    unfold stayN datsW keysW
    generalize (((nodes.map (·.files) ++ [aux]).flatMap fun l => l).map (·.data)).foldl addO [] = D1 at b1 ⊢
    generalize ((nodes.map (·.files) ++ [aux]).flatMap fun l => (dirsL l).map fun d => keyS n (subV l d)).foldl addO [] = D2 at b2 ⊢
    rw [wi_e (x := (D1.length : Int) + D2.length + nodes.length) (by omega) (by omega), wi_e (by omega) (by omega)]
theorem free_live (hr : Rest A) : nfr A + nlv A = 48 := by
  unfold nfr nlv
  have hnd : ((ids.filter fun i => decide ((A i).st = 0)) ++ (ids.filter fun i => decide (A i).lv)).Nodup := by
    rw [List.nodup_append]
    refine ⟨ids_nodup.filter _, ids_nodup.filter _, fun a ha b hb e => ?_⟩
    subst e
    have h1 := of_decide_eq_true (List.mem_filter.1 ha).2
    have h2 := of_decide_eq_true (List.mem_filter.1 hb).2
    exact Ob.lv_ne h2 h1
  have := same_len hnd ids_nodup (fun x => by
    rw [List.mem_append, List.mem_filter, List.mem_filter]
    refine ⟨fun h => h.elim (fun h => h.1) (fun h => h.1), fun hx => ?_⟩
    have hx2 := mem_ids.1 hx
    rcases hr x hx2.1 hx2.2 with h | h
    · exact .inl ⟨hx, decide_eq_true h⟩
    · exact .inr ⟨hx, decide_eq_true (.inr h)⟩)
  rw [List.length_append] at this
  rw [this]; rfl
theorem live_count (hn : 100000 ≤ n) (h : Gr t s d g A root ord K bs H) (ex : Exact A root ord K g.aux) : (nlv A : Int) = stayN n H.nodes H.aux := by
  have ts := h.lt.ts
  have tw := h.lt.st.tw
  have ht := h.tab
  have hrk := h.rk
  let snaps := H.nodes.map (·.files) ++ [H.aux]
  let P := fun x => (∃ c, c ∈ ord ∧ Mem A 6 (K c).tree x) ∨ Mem A 6 g.aux x
  have hlaw : ∀ l, l ∈ snaps → Law l := by
    intro l hl
    rcases List.mem_append.1 hl with hl | hl
    · obtain ⟨x, hx, rfl⟩ := List.mem_map.1 hl
      rw [h.nodes] at hx
      obtain ⟨i, hi, rfl⟩ := List.mem_map.1 hx
      exact ht.law i hi
    · rw [List.mem_singleton.1 hl]; exact h.laux
  have down : ∀ l, l ∈ snaps → ∃ i, Ht A 6 i ∧ l = VL A 6 i ∧ ∀ x, Mem A 6 i x → P x := by
    intro l hl
    rcases List.mem_append.1 hl with hl | hl
    · obtain ⟨x, hx, rfl⟩ := List.mem_map.1 hl
      rw [h.nodes] at hx
      obtain ⟨i, hi, rfl⟩ := List.mem_map.1 hx
      have hv := ht.tv i hi
      exact ⟨(K i).tree, ts.ht _ hv.1, hv.2, fun x hx => .inl ⟨i, hi, hx⟩⟩
    · rw [List.mem_singleton.1 hl]
      exact ⟨g.aux, ts.ht _ h.aux.1, h.aux.2, fun x hx => .inr hx⟩
  have upp : ∀ x, P x → ∃ l i, l ∈ snaps ∧ Ht A 6 i ∧ l = VL A 6 i ∧ Mem A 6 i x := by
    rintro x (⟨c, hc, hx⟩ | hx)
    · have hv := ht.tv c hc
      refine ⟨(K c).files, (K c).tree, List.mem_append_left _ ?_, ts.ht _ hv.1, hv.2, hx⟩
      rw [h.nodes]
      exact List.mem_map.2 ⟨nodeOf K c, List.mem_map_of_mem hc, rfl⟩
    · exact ⟨H.aux, g.aux, List.mem_append_right _ (by simp), ts.ht _ h.aux.1, h.aux.2, hx⟩
  have Plv : ∀ x, P x → 1 ≤ x ∧ x ≤ 48 ∧ (A x).lv := by
    intro x hx
    obtain ⟨l, i, _, hh, _, hm⟩ := upp x hx
    rcases mem_sub ts hh hm with ⟨h1, _⟩ | ⟨h1, _⟩
    · exact ⟨h1.1, h1.2.1, h1.2.2.1⟩
    · exact ⟨h1.1, h1.2.1, h1.2.2.1⟩
  have ofk : ∀ x, 1 ≤ x → x ≤ 48 → (A x).lv → ((A x).kind = 1 ∨ (A x).kind = 2) → P x := by
    intro x h0 h1 hl hk
    rcases (ex x h0 h1).1 hl with rfl | hx | hx | hx
    · have := hrk.2.2.2; omega
    · have := ((ht.ob x).1 hx).2.2.2; omega
    · exact .inl hx
    · exact .inr hx
  let B := ids.filter fun i => decide (isBl A i)
  let T := ids.filter fun i => decide (isTr A i)
  have mB : ∀ x, x ∈ B ↔ isBl A x := fun x => by
    show x ∈ ids.filter _ ↔ _
    rw [List.mem_filter, decide_eq_true_eq]
    exact ⟨fun h => h.2, fun h => ⟨mem_ids.2 ⟨h.1, h.2.1⟩, h⟩⟩
  have mT : ∀ x, x ∈ T ↔ isTr A x := fun x => by
    show x ∈ ids.filter _ ↔ _
    rw [List.mem_filter, decide_eq_true_eq]
    exact ⟨fun h => h.2, fun h => ⟨mem_ids.2 ⟨h.1, h.2.1⟩, h⟩⟩
  have hB : B.length = (datsW snaps).length := by
    rw [show B.length = (B.map fun x => (A x).data).length from (List.length_map _).symm]
    refine same_len (map_nodup (ids_nodup.filter _) (fun a b ha hb e => ?_)) (addAllO_nodup .nil) (fun v => ?_)
    · have ha := (mB a).1 ha
      have hb := (mB b).1 hb
      exact tw a b ha.1 ha.2.1 hb.1 hb.2.1 ha.2.2.1 hb.2.2.1 (by rw [ha.2.2.2, hb.2.2.2]) e
    · unfold datsW
      rw [addAllO_mem, List.mem_map, List.mem_map]
      constructor
      · rintro ⟨x, hx, rfl⟩
        have hx := (mB x).1 hx
        obtain ⟨l, i, hl, hh, e, hm⟩ := upp x (ofk x hx.1 hx.2.1 hx.2.2.1 (.inl hx.2.2.2))
        rcases mem_sub ts hh hm with ⟨_, f, h2, h3⟩ | ⟨h1, _⟩
        · exact .inr ⟨f, List.mem_flatMap.2 ⟨l, hl, by rw [e]; exact h2⟩, h3⟩
        · have := h1.2.2.2; have := hx.2.2.2; omega
      · rintro (h2 | ⟨f, hf, rfl⟩)
        · cases h2
        · obtain ⟨l, hl, hf⟩ := List.mem_flatMap.1 hf
          obtain ⟨i, hh, e, _⟩ := down l hl
          obtain ⟨x, _, h3, h4⟩ := sub_bl ts hh (by rw [← e]; exact hf)
          exact ⟨x, (mB x).2 h3, h4⟩
  have hsub : ∀ x, isTr A x → ∃ l d, l ∈ snaps ∧ d ∈ dirsL l ∧ VL A 6 x = subV l d := by
    intro x hx
    obtain ⟨l, i, hl, hh, e, hm⟩ := upp x (ofk x hx.1 hx.2.1 hx.2.2.1 (.inr hx.2.2.2))
    rcases mem_sub ts hh hm with ⟨h1, _⟩ | ⟨_, d, h2, h3⟩
    · have := h1.2.2.2; have := hx.2.2.2; omega
    · rw [← e] at h2 h3
      exact ⟨l, d, hl, dirsL_mem.2 h2, h3⟩
  have hT : T.length = (keysW n snaps).length := by
    rw [show T.length = (T.map fun x => keyS n (VL A 6 x)).length from (List.length_map _).symm]
    refine same_len (map_nodup (ids_nodup.filter _) (fun a b ha hb e => ?_)) (addAllO_nodup .nil) (fun v => ?_)
    · have ha := (mT a).1 ha
      have hb := (mT b).1 hb
      obtain ⟨la, da, hla, _, ea⟩ := hsub a ha
      obtain ⟨lb, db, hlb, _, eb⟩ := hsub b hb
      have hv : VL A 6 a = VL A 6 b := keyS_inj hn (by rw [ea]; exact law_small (hlaw la hla) da) (by rw [eb]; exact law_small (hlaw lb hlb) db) e
      exact VL_inj ts tw 6 a b (ts.ht a ha) (ts.ht b hb) hv
    · unfold keysW
      rw [addAllO_mem, List.mem_map, List.mem_flatMap]
      constructor
      · rintro ⟨x, hx, rfl⟩
        obtain ⟨l, d, hl, hd, e⟩ := hsub x ((mT x).1 hx)
        exact .inr ⟨l, hl, List.mem_map.2 ⟨d, hd, by rw [e]⟩⟩
      · rintro (h2 | ⟨l, hl, hv⟩)
        · cases h2
        · obtain ⟨d, hd, rfl⟩ := List.mem_map.1 hv
          obtain ⟨i, hh, e, _⟩ := down l hl
          rcases dirsL_mem.1 hd with rfl | hf
          · exact ⟨i, (mT i).2 hh.tr, by rw [subV_nil, e]⟩
          · rw [e] at hf
            obtain ⟨x, _, h3, h4⟩ := sub_tr ts hh hf
            exact ⟨x, (mT x).2 h3, by rw [h4, e]⟩
  have hnd : (T ++ (B ++ (ord ++ [root]))).Nodup := by
    have hro : root ∉ ord := fun e => by have := ((ht.ob root).1 e).2.2.2; have := hrk.2.2.2; omega
    rw [List.nodup_append, List.nodup_append, List.nodup_append]
    refine ⟨ids_nodup.filter _, ⟨ids_nodup.filter _, ⟨ord_nodup ht, by simp, fun a ha b hb e => ?_⟩, fun a ha b hb e => ?_⟩, fun a ha b hb e => ?_⟩
    · rw [List.mem_singleton.1 hb] at e; rw [e] at ha; exact hro ha
    · subst e
      have h1 := ((mB a).1 ha).2.2.2
      rcases List.mem_append.1 hb with hb | hb
      · have := ((ht.ob a).1 hb).2.2.2; omega
      · rw [List.mem_singleton.1 hb] at h1; have := hrk.2.2.2; omega
    · subst e
      have h1 := ((mT a).1 ha).2.2.2
      rcases List.mem_append.1 hb with hb | hb
      · have := ((mB a).1 hb).2.2.2; omega
      · rcases List.mem_append.1 hb with hb | hb
        · have := ((ht.ob a).1 hb).2.2.2; omega
        · rw [List.mem_singleton.1 hb] at h1; have := hrk.2.2.2; omega
  have hall := same_len (ids_nodup.filter fun i => decide (A i).lv) hnd (fun x => by
    rw [List.mem_filter, decide_eq_true_eq, List.mem_append, List.mem_append, List.mem_append, List.mem_singleton, mT, mB]
    constructor
    · rintro ⟨hx, hl⟩
      have hx2 := mem_ids.1 hx
      rcases (ex x hx2.1 hx2.2).1 hl with e | e | e
      · exact .inr (.inr (.inr e))
      · exact .inr (.inr (.inl e))
      · obtain ⟨l, i, _, hh, _, hm⟩ := upp x e
        rcases mem_sub ts hh hm with ⟨h1, _⟩ | ⟨h1, _⟩
        · exact .inr (.inl h1)
        · exact .inl h1
    · rintro (h1 | h1 | h1 | rfl)
      · exact ⟨mem_ids.2 ⟨h1.1, h1.2.1⟩, h1.2.2.1⟩
      · exact ⟨mem_ids.2 ⟨h1.1, h1.2.1⟩, h1.2.2.1⟩
      · have := (ht.ob x).1 h1; exact ⟨mem_ids.2 ⟨this.1, this.2.1⟩, this.2.2.1⟩
      · exact ⟨mem_ids.2 ⟨hrk.1, hrk.2.1⟩, hrk.2.2.1⟩)
  have hnl : (ids.filter fun i => decide (A i).lv).length = nlv A := rfl
  rw [hnl, List.length_append, List.length_append, List.length_append, List.length_singleton] at hall
  have hol : H.nodes.length = ord.length := by rw [h.nodes, List.length_map]
  show _ = ((datsW snaps).length : Int) + (keysW n snaps).length + H.nodes.length + 1
  rw [← hB, ← hT, hol, hall]
  omega
end
end Go.Proofs.Qxb6500350aGreat
