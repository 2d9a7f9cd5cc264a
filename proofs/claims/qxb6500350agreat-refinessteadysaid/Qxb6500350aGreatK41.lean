/- PLAIN LAW: THE GRAPH LAYER'S COMMIT. -/
import Derived.Test.Qxb6500350aGreatK40
import Derived.Test.Qxb6500350aGreatT129
set_option linter.unusedVariables false
set_option linter.unusedSimpArgs false
set_option maxHeartbeats 2000000
namespace Go.Proofs.Qxb6500350aGreat
open Go.Eng Go
theorem cbytes_seq {a b ta tb : Int} {pa pb : List Int} {ma mb : Str} (ha0 : 0 ≤ a) (ha1 : a < 9223372036854775808) (hb0 : 0 ≤ b) (hb1 : b < 9223372036854775808) (h : cbytes a ta pa ma = cbytes b tb pb mb) : a = b := by
  have h1 := seqAt_ok (n := 100000) (d := cbytes a ta pa ma) (Nat.le_refl _) rfl ha0 ha1
  have h2 := seqAt_ok (n := 100000) (d := cbytes b tb pb mb) (Nat.le_refl _) rfl hb0 hb1
  rw [h, h2] at h1
  exact (Option.some.inj h1).symm
section
variable {n : Nat} {t : Trees} {s : Store} {d : Dev} {g : Graph} {A : Int → Ob} {root : Int} {ord : List Int} {K : Int → CI} {bs : List Brn} {H : Hist}
/-- the new commit is put into the table -/
theorem Gm.commit {A' : Int → Ob} {i tree : Int} {ps : List Int} {msg : Str} {fs : List File} {od : Int → Int} {t' : Trees} {s' : Store} {d' : Dev} {g' : Graph}
    (h : Gm t s d g A root ord K bs H) (hl : LT t' s' d' A' root) (he : Ext A A') (hi : isCo A' i) (hin : i ∉ ord) (hdat : (A' i).data = cbytes g.nxt tree ps msg) (hne : ∀ j, j ≠ i → A' j = A j)
    (htv : TV A tree fs) (hlaw : Law fs) (hps : ps.length ≤ 2) (hpm : ∀ p, p ∈ ps → p ∈ ord) (hmsg : msg.length ≤ 16) (hlen : ord.length < 40) (hnx : g.nxt + 1 < 2305843009213693952)
    (hg : g' = { g with com := upI g.com i (mkCom g.nxt tree ps), order := od, n := g.n + 1, nxt := g.nxt + 1 }) (hor : Ordr g' (ord ++ [i])) :
    Gm t' s' d' g' A' root (ord ++ [i]) (upd K i ⟨g.nxt, tree, ps, msg, fs⟩) bs { H with nodes := H.nodes ++ [{ seq := H.nxt, files := fs, parents := ps.map fun p => (K p).seq, msg := msg }], nxt := H.nxt + 1 } := by
  subst hg
  have ht := h.tab
  have hts := h.lt.ts
  have hK : ∀ x, x ∈ ord → upd K i ⟨g.nxt, tree, ps, msg, fs⟩ x = K x := fun x hx => by
    unfold upd; rw [if_neg (fun e : x = i => hin (e ▸ hx))]
  have hKi : upd K i ⟨g.nxt, tree, ps, msg, fs⟩ i = ⟨g.nxt, tree, ps, msg, fs⟩ := by unfold upd; rw [if_pos rfl]
  have hC : ∀ x, x ∈ ord → upI g.com i (mkCom g.nxt tree ps) x = g.com x := fun x hx => by
    unfold upI; rw [if_neg (fun e : x = i => hin (e ▸ hx))]
  have cases_ : ∀ {P : Int → Prop}, (∀ x, x ∈ ord → P x) → P i → ∀ x, x ∈ ord ++ [i] → P x := by
    intro P h1 h2 x hx
    rcases List.mem_append.1 hx with hx | hx
    · exact h1 x hx
    · rw [List.mem_singleton.1 hx]; exact h2
  have hcur := h.cur
  have hnl := ht.nx
  refine ⟨hl, ⟨hor, by rw [List.length_append, List.length_singleton]; omega, ?_, ?_, ?_, ?_, ?_, ?_, ?_, ?_, ?_, by show 1 ≤ g.nxt + 1 ∧ g.nxt + 1 < _; omega⟩, ⟨hcur.brs.nb |> fun a => ⟨a, hcur.brs.br, hcur.brs.le⟩, fun b hb => ⟨List.mem_append_left _ (hcur.bid b hb).1, (hcur.bid b hb).2⟩, hcur.bsrt, ?_, hcur.hn, ?_, ?_⟩, h.aux.ext hts he, h.laux, ?_, by show H.nxt + 1 = g.nxt + 1; rw [h.nxt], he.rf h.rk, ?_⟩
  · refine cases_ (fun x hx => ?_) ?_
    · rw [hK x hx]; exact (hC x hx).trans (ht.com x hx)
    · rw [hKi]; show upI g.com i _ i = _; unfold upI; rw [if_pos rfl]
  · intro x x0 x1 hx
    show upI g.com i _ x = _
    unfold upI
    rw [if_neg (fun e : x = i => hx (by rw [e]; simp))]
    exact ht.noc x x0 x1 (fun e => hx (List.mem_append_left _ e))
  · intro x
    rw [List.mem_append, List.mem_singleton]
    constructor
    · rintro (hx | rfl)
      · have hc := (ht.ob x).1 hx
        unfold isCo; rw [he.live hc.1 hc.2.1 (Ob.lv_ne hc.2.2.1)]; exact hc
      · exact hi
    · intro hx
      by_cases e : x = i
      · exact .inr e
      · refine .inl ((ht.ob x).2 ?_)
        unfold isCo at hx ⊢; rw [hne x e] at hx; exact hx
  · refine cases_ (fun x hx => ?_) ?_
    · have hc := (ht.ob x).1 hx
      rw [hK x hx, he.live hc.1 hc.2.1 (Ob.lv_ne hc.2.2.1)]; exact ht.dat x hx
    · rw [hKi]; exact hdat
  · refine cases_ (fun x hx => ?_) ?_
    · rw [hK x hx]; have := ht.seq x hx; exact ⟨this.1, by show _ < g.nxt + 1; omega⟩
    · rw [hKi]; exact ⟨hnl.1, by show g.nxt < g.nxt + 1; omega⟩
  · refine cases_ (fun x hx => ?_) ?_
    · rw [hK x hx]
      refine ⟨(ht.ps x hx).1, fun p hp => ?_⟩
      have := (ht.ps x hx).2 p hp
      rw [hK p this.1]; exact ⟨List.mem_append_left _ this.1, this.2⟩
    · rw [hKi]
      refine ⟨hps, fun p hp => ?_⟩
      have := hpm p hp
      rw [hK p this]; exact ⟨List.mem_append_left _ this, (ht.seq p this).2⟩
  · refine cases_ (fun x hx => ?_) ?_
    · rw [hK x hx]; exact ht.msg x hx
    · rw [hKi]; exact hmsg
  · refine cases_ (fun x hx => ?_) ?_
    · rw [hK x hx]; exact (ht.tv x hx).ext hts he
    · rw [hKi]; exact htv.ext hts he
  · refine cases_ (fun x hx => ?_) ?_
    · rw [hK x hx]; exact ht.law x hx
    · rw [hKi]; exact hlaw
  · show H.refs = _
    rw [hcur.refs]
    refine List.map_congr_left fun b hb => ?_
    show ({ name := b.name, seq := (K b.id).seq } : Ref_) = { name := b.name, seq := (upd K i _ b.id).seq }
    rw [hK b.id (hcur.bid b hb).1]
  · rcases hcur.hat with e | ⟨e1, e2, e3⟩
    · exact .inl e
    · exact .inr ⟨e1, List.mem_append_left _ e2, by rw [hK _ e2]; exact e3⟩
  · rcases hcur.hm with e | ⟨e2, e3⟩
    · exact .inl e
    · exact .inr ⟨List.mem_append_left _ e2, by rw [hK _ e2]; exact e3⟩
  · show H.nodes ++ _ = _
    rw [List.map_append, h.nodes]
    have e1 : ord.map (nodeOf (upd K i ⟨g.nxt, tree, ps, msg, fs⟩)) = ord.map (nodeOf K) := by
      refine List.map_congr_left fun x hx => ?_
      unfold nodeOf
      rw [hK x hx]
      congr 1
      exact List.map_congr_left fun p hp => by rw [hK p ((ht.ps x hx).2 p hp).1]
    rw [e1]
    congr 1
    show [_] = [nodeOf _ i]
    unfold nodeOf
    rw [hKi, h.nxt]
    congr 2
    exact (List.map_congr_left fun p hp => by rw [hK p (hpm p hp)]).symm
  · intro x hx
    refine h.ruq x ?_
    have : x ≠ i := by rintro rfl; have := hi.2.2.2; have := hx.2.2.2; omega
    unfold isRf at hx ⊢; rw [hne x this] at hx; exact hx
theorem gcommit_ok {fs : List File} {pq : List Int} {msg : Str} (hn : 100010 ≤ n) (h : Gm t s d g A root ord K bs H) (hl : Law fs) (hp2 : pq.length ≤ 2) (hpd : ∀ a b, pq = [a, b] → a ≠ b) (hpm : ∀ q, q ∈ pq → ∃ i, i ∈ ord ∧ (K i).seq = q) (hmsg : msg.length ≤ 16) (hnx : g.nxt + 1 < 2305843009213693952) :
    Ok (m129 n g t s d fs pq msg) (fun r => (40 ≤ ord.length ∧ r = (0, 8, g, t, s, d)) ∨ (ord.length < 40 ∧ ∃ g' t' s' d' A', LT t' s' d' A' root ∧ Grow (fun q => q = 1 ∨ q = 2 ∨ q = 3) d A d' A' ∧ ((r = (0, 5, g, t', s', d') ∧ (nfr A : Int) < cost fs + 1) ∨
      (r = (H.nxt, 0, g', t', s', d') ∧ (nfr A : Int) ≤ nfr A' + (cost fs + 1) ∧ ∃ ord' K', Gm t' s' d' g' A' root ord' K' bs { H with nodes := H.nodes ++ [{ seq := H.nxt, files := fs, parents := pq, msg := msg }], nxt := H.nxt + 1 } ∧ ∃ i, i ∈ ord' ∧ (K' i).seq = H.nxt)))) := by
  have ht := h.tab
  have hnxr := ht.nx
  have hgn := ht.od.n
  have hfA := h.lt.st.freeE
  unfold m129
  refine Ok_cl1 (checkFiles_ok (by omega)) ?_
  rw [chkF_iff.2 hl]
  refine Ok_ite (fun e => absurd rfl e) (fun _ => Ok_ite (fun e => by omega) (fun _ => ?_))
  have hdup : Ok (cond (decide ((pq.length : Int) = 2)) (Option.bind (ixL pq 0) fun x1 => Option.bind (ixL pq 1) fun x2 => some ((decide (x1 = x2)))) (some (false))) (fun b => b = false) := by
    refine Ok_ite (fun e => Ok_ix (by omega) (by omega) (fun x1 hx1 => Ok_ix (by omega) (by omega) (fun x2 hx2 => Ok.some' (decide_eq_false ?_)))) (fun _ => Ok.some' rfl)
    match pq, e, hx1, hx2, hpd with
    | [a, b], _, h1, h2, hd => 
      have e1 : a = x1 := Option.some.inj h1
      have e2 : b = x2 := Option.some.inj h2
      rw [← e1, ← e2]; exact hd a b rfl
  refine Ok_ob1 (hdup.mono (fun b hb => ?_))
  subst hb
  refine Ok_cond (fun e => nomatch e) (fun _ => Ok_nm (Ok_flow ?_))
  unfold m129_w1
  refine Ok_it2 (fun (c : Int) (z : Com) => 0 ≤ c ∧ c ≤ pq.length ∧ ∃ ps : List Int, (ps.length : Int) = c ∧ (∀ p, p ∈ ps → p ∈ ord) ∧ ps.map (fun p => (K p).seq) = pq.take c.toNat ∧ z = { Com.zero with used := true, seq := g.nxt, np := pq.length, par := (mkCom 0 0 ps).par }) (fun (c : Int) _ => ((pq.length : Int) - c).toNat) ?_ n 0 _ ⟨by omega, by omega, [], rfl, by simp, by simp, ?_⟩ (by show ((pq.length : Int) - 0).toNat < n; omega)
  rotate_left
  · have e0 : (mkCom 0 0 []).par = Com.zero.par := by funext k; simp [mkCom, Com.zero]
    show _ = ({ Com.zero with used := true, seq := g.nxt, np := pq.length, par := (mkCom 0 0 []).par } : Com)
    rw [e0]
  rintro Q lp c z hQ ⟨i0, i1, ps, p1, p2, p3, rfl⟩ ih
  refine Ok_ite (fun hc => Ok_ix (by omega) hc (fun q hq => ?_)) (fun hc => ?_)
  · refine Ok_ob1 (Ok.mono (ht.find (by omega) q) (fun r hr => ?_))
    rcases hr with ⟨rfl, hf⟩ | ⟨hr1, hr2, _⟩
    · obtain ⟨i, hi1, hi2⟩ := hpm q (List.mem_of_getElem? hq)
      have := List.find?_eq_none.1 hf (nodeOf K i) (List.mem_map_of_mem hi1)
      exact absurd (decide_eq_true (show (nodeOf K i).seq = q from hi2)) this
    · have hrr := ht.rng hr1
      refine Ok_ite (fun e => by omega) (fun _ => Ok_ck (by omega) (by omega) (Ok_nm ?_))
      rw [wi_e (by omega) (by omega)]
      refine ih _ _ ⟨by omega, by omega, ps ++ [r], by simp; omega, fun p hp => ?_, ?_, ?_⟩ (by omega)
      · rcases List.mem_append.1 hp with hp | hp
        · exact p2 p hp
        · rw [List.mem_singleton.1 hp]; exact hr1
      · rw [List.map_append, p3, show (c + 1).toNat = c.toNat + 1 by omega, List.take_add_one, hq, ← hr2]; rfl
      · congr 1
        funext k
        unfold upI
        show (if k = c then r else if 0 ≤ k then ps.getD k.toNat 0 else 0) = if 0 ≤ k then (ps ++ [r]).getD k.toNat 0 else 0
        by_cases e : k = c
        · subst e
          rw [if_pos rfl, if_pos (by omega), List.getD_eq_getElem?_getD, List.getElem?_append_right (by omega), show k.toNat - ps.length = 0 by omega]; rfl
        · rw [if_neg e]
          by_cases e2 : 0 ≤ k
          · rw [if_pos e2, if_pos e2, List.getD_eq_getElem?_getD, List.getD_eq_getElem?_getD, List.getElem?_append]
            split
            · rfl
            · rw [List.getElem?_eq_none (l := ps) (by omega), List.getElem?_eq_none (l := [r]) (by rw [List.length_singleton]; omega)]
          · rw [if_neg e2, if_neg e2]
  · obtain rfl : c = pq.length := by omega
    rw [Int.toNat_natCast, List.take_length] at p3
    refine Ok.some' (hQ _ ?_)
    refine Ok_ite (fun e => by omega) (fun _ => Ok_ite (fun e => Ok.some' (.inl ⟨by omega, rfl⟩)) (fun e => ?_))
    have hlt40 : ord.length < 40 := by omega
    refine Ok_ob5 (Ok.mono (store_ok hn h.lt hl) (fun r hr => ?_))
    obtain ⟨t1, s1, d1, A1, l1, l2, hr⟩ := hr
    rcases hr with ⟨rfl, hr⟩ | ⟨tree, rfl, hr1, hr2⟩
    · refine Ok_ite (fun _ => Ok.some' (.inr ⟨hlt40, g, t1, s1, d1, A1, l1, l2.mono (fun k hk => by omega), .inl ⟨rfl, by omega⟩⟩)) (fun e => absurd (show ¬ ((5 : Int) = 0) by decide) e)
    · refine Ok_ite (fun e => absurd rfl e) (fun _ => Ok_nm ?_)
      have hcom : ({ ({ Com.zero with used := true, seq := g.nxt, np := pq.length, par := (mkCom 0 0 ps).par } : Com) with tree := tree } : Com) = mkCom g.nxt tree ps := by
        unfold mkCom
        simp only [p1]
      show Ok (ob1 (m213 n ({ ({ Com.zero with used := true, seq := g.nxt, np := pq.length, par := (mkCom 0 0 ps).par } : Com) with tree := tree } : Com) msg) _) _
      rw [hcom]
      have hcb := cbytes_len g.nxt tree ps msg
      refine Ok_cl1 (commitBytes_ok (by omega) (by omega) (by omega) (by omega) (by omega)) ?_
      refine Ok_ob5 (Ok.mono (tput_ok (k := 3) (x := cbytes g.nxt tree ps msg) (by omega) l1 (by omega) (by omega) (by omega) (by omega)) (fun r hr => ?_))
      rcases hr with ⟨f0, rfl⟩ | ⟨i, t2, s2, d2, A2, rfl, b1, b2, b3, b4, b5, b6, b7, b8, b9⟩
      · refine Ok_ite (fun _ => Ok.some' (.inr ⟨hlt40, g, t1, s1, d1, A1, l1, l2.mono (fun k hk => by omega), .inl ⟨rfl, by omega⟩⟩)) (fun e => absurd (show ¬ ((5 : Int) = 0) by decide) e)
      · refine Ok_ite (fun e => absurd rfl e) (fun _ => Ok_ck (by omega) (by show i < 49; omega) (Ok_nm ?_))
        have hg1 := h.grow l1 l2 (fun k hk => by omega)
        have hin : i ∉ ord := by
          intro hi
          have hc := (hg1.tab.ob i).1 hi
          have hd := hg1.tab.dat i hi
          rw [← b2.ext.live hc.1 hc.2.1 (Ob.lv_ne hc.2.2.1), b8] at hd
          have hsq := ht.seq i hi
          have := cbytes_seq (by omega) (by omega) (by omega) (by omega) hd
          omega
        have hOg : Ordr { g with com := upI g.com i (mkCom g.nxt tree ps) } ord := by
          have hod := ht.od
          refine ⟨hod.n, hod.le, hod.oget, hod.rng, ?_⟩
          refine List.Pairwise.imp_of_mem ?_ hod.srt
          intro a b ha hb hab
          show (upI g.com i _ a).seq < (upI g.com i _ b).seq
          unfold upI
          rw [if_neg (fun e : a = i => hin (e ▸ ha)), if_neg (fun e : b = i => hin (e ▸ hb))]; exact hab
        have hpl := place_ok (n := n) (g := { g with com := upI g.com i (mkCom g.nxt tree ps) }) (ord := ord) (id := i) (by omega) hOg b4 b5 (by omega) (fun x hx => ?_)
        rotate_left
        · show (upI g.com i _ x).seq ≠ (upI g.com i _ i).seq
          unfold upI
          rw [if_neg (fun e : x = i => hin (e ▸ hx)), if_pos rfl, ht.comseq hx]
          have := (ht.seq x hx).2
          show _ ≠ g.nxt
          omega
        refine Ok_ob1 (hpl.mono (fun g2 hg2 => ?_))
        obtain ⟨o1, o2, od, ho, rfl, hO2⟩ := hg2
        have ho2 : o2 = [] := by
          cases o2 with
          | nil => rfl
          | cons x o2 =>
            have h1 := (List.pairwise_cons.1 (List.pairwise_append.1 hO2.srt).2.1).1 x (by simp)
            have hxm : x ∈ ord := by rw [ho]; simp
            have h2 : (upI g.com i (mkCom g.nxt tree ps) i).seq < (upI g.com i (mkCom g.nxt tree ps) x).seq := h1
            unfold upI at h2
            rw [if_pos rfl, if_neg (fun e : x = i => hin (e ▸ hxm)), ht.comseq hxm] at h2
            have h3 := (ht.seq x hxm).2
            have h2 : g.nxt < (K x).seq := h2
            omega
        subst ho2
        rw [List.append_nil] at ho
        subst ho
        have hwn : wi (g.nxt + 1) = g.nxt + 1 := wi_e (by omega) (by omega)
        refine Ok_nm (Ok.some' (.inr ⟨hlt40, { g with com := upI g.com i (mkCom g.nxt tree ps), order := od, n := g.n + 1, nxt := g.nxt + 1 }, t2, s2, d2, A2, b1, (l2.mono (fun k hk => by omega)).trans hfA (b2.mono fun k hk => by omega), .inr ⟨?_, by omega, ord ++ [i], upd K i ⟨g.nxt, tree, ps, msg, fs⟩, ?_, i, by simp, ?_⟩⟩))
        · show (g.nxt, (0 : Int), ({ g with com := upI g.com i (mkCom g.nxt tree ps), order := od, n := g.n + 1, nxt := wi (g.nxt + 1) } : Graph), t2, s2, d2) = _
          rw [hwn, h.nxt]
        · have hfin := Gm.commit (i := i) (tree := tree) (ps := ps) (msg := msg) (fs := fs) (od := od) hg1 b1 b2.ext ⟨b4, b5, b6, b7⟩ hin b8 b9 hr1 hl (by omega) p2 hmsg hlt40 hnx rfl ⟨hO2.n, hO2.le, hO2.oget, hO2.rng, hO2.srt⟩
          rw [p3] at hfin
          exact hfin
        · unfold upd; rw [if_pos rfl]; exact h.nxt.symm
end
end Go.Proofs.Qxb6500350aGreat
