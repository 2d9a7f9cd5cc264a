/- PLAIN LAW: MERGE OF SNAPSHOTS (2): WEAVE. -/
import Derived.Test.Qxb6500350aGreatK66
import Derived.Test.Qxb6500350aGreatT151
set_option linter.unusedVariables false
set_option linter.unusedSimpArgs false
set_option maxHeartbeats 4000000
namespace Go.Proofs.Qxb6500350aGreat
open Go.Eng Go
section
variable {n : Nat}
/-- the least head so far -/
def LowQ (p q : Str) : Prop := q = [] ∨ q = p ∨ sLt p q = true
theorem lower_step {l l1 l2 : List File} {done rest : List Str} {p q : Str} (h : CutL l done (p :: rest) l1 l2) (hs : l.Pairwise fun a b => sLt a.path b.path = true) (hr : (done ++ p :: rest).Pairwise fun a b => sLt a b = true) (hp : p ≠ []) (hq : LowQ p q) :
    Ok (m225 n q l l1.length) (fun q' => LowQ p q' ∧ (q = p → q' = p) ∧ ∀ f t, l2 = f :: t → f.path = p → q' = p) := by
  obtain ⟨g1, g2⟩ := suf_ix h.eq
  unfold m225
  refine Ok_ob1 (Ok_ite (fun hlt => ?_) (fun hge => Ok.some' ?_))
  · cases l2 with
    | nil => exact absurd rfl (g1.1 hlt)
    | cons x t =>
      have rx : ∀ {τ : Type} {P : τ → Prop} {F : File → Option τ}, Ok (F x) P → Ok (Option.bind (ixL l l1.length) F) P := fun k => Ok_ix (by omega) hlt (fun z hz => by rw [← g2 x t rfl z hz]; exact k)
      have hx := cut_head h hr rfl
      have take : (q = p → x.path = p) → Ok (Option.bind (ixL l l1.length) fun x2 => some x2.path) (fun q' => LowQ p q' ∧ (q = p → q' = p) ∧ ∀ f t', x :: t = f :: t' → f.path = p → q' = p) :=
        fun h0 => rx (Ok.some' ⟨.inr hx, h0, fun f t' e h1 => by rw [← (List.cons.inj e).1] at h1; exact h1⟩)
      refine Ok_ite (fun e => Ok.some' ?_) (fun e => rx (Ok.some' ?_))
      · exact Ok_cond (fun _ => take (fun e2 => absurd (e2.symm.trans e) hp)) (fun e => nomatch e)
      · refine Ok_cond (fun hl => take (fun e2 => ?_)) (fun hl => Ok.some' ⟨hq, fun e2 => e2, fun f t' e2 h1 => ?_⟩)
        · rcases hx with h1 | h1
          · exact h1
          · rw [e2, sLt_asymm h1] at hl; cases hl
        · rw [← (List.cons.inj e2).1] at h1
          rcases hq with h2 | h2 | h2
          · exact absurd h2 e
          · exact h2
          · rw [h1, h2] at hl; cases hl
  · refine Ok_cond (fun e => nomatch e) (fun _ => Ok.some' ⟨hq, fun e => e, fun f t e => ?_⟩)
    exact absurd (g1.2 (by rw [e]; simp)) hge
theorem here_step {l l1 l2 : List File} {done rest : List Str} {p : Str} (h : CutL l done (p :: rest) l1 l2) (hs : l.Pairwise fun a b => sLt a.path b.path = true) (hr : (done ++ p :: rest).Pairwise fun a b => sLt a b = true) :
    Ok (m226 n l l1.length p) (fun r => (∃ l1' l2', StepL l done rest p l1 l2 r.2 l1' l2') ∧ r.1 = (datF l p).getD [] ∧ (r.2 = true ↔ datF l p ≠ none)) := by
  obtain ⟨g1, g2⟩ := suf_ix h.eq
  unfold m226
  refine Ok_ob1 ((flag_step h hs hr).mono (fun b hb => ?_))
  obtain ⟨l1', l2', hS⟩ := hb
  refine Ok_cond (fun e => ?_) (fun e => Ok.some' ⟨⟨l1', l2', by rw [← e]; exact hS⟩, ?_, ?_⟩)
  · obtain ⟨f, h1, h2, h3⟩ := hS.tt e
    refine Ok_ix (by omega) (g1.2 (by rw [h2]; simp)) (fun x hx => Ok.some' ⟨⟨l1', l2', by rw [← e]; exact hS⟩, ?_, ?_⟩)
    · unfold datF; rw [h1, g2 f l2' h2 x hx]; rfl
    · unfold datF; rw [h1]; simp
  · obtain ⟨h1, _⟩ := hS.ff e
    unfold datF; rw [h1]; rfl
  · obtain ⟨h1, _⟩ := hS.ff e
    unfold datF; rw [h1]; simp
/-- changes as files without data -/
def pthF (ch : List Chg) : List File := ch.map fun c => { path := c.path, data := [], mode := 0 }
theorem pthF_srt {a b : List File} {ch : List Chg} (h : ChgOf a b ch) : (pthF ch).Pairwise fun a b => sLt a.path b.path = true := by
  unfold pthF
  rw [List.pairwise_map]
  have := h.srt
  rwa [List.pairwise_map] at this
theorem pthF_find {a b : List File} {ch : List Chg} (h : ChgOf a b ch) (p : Str) : findF (pthF ch) p ≠ none ↔ findF a p ≠ findF b p := by
  rw [← h.mem p, Ne, findF_none, Classical.not_forall]
  unfold pthF
  constructor
  · rintro ⟨f, hf⟩
    obtain ⟨h1, h2⟩ := Classical.not_imp.1 hf
    obtain ⟨c, hc, rfl⟩ := List.mem_map.1 h1
    exact List.mem_map.2 ⟨c, hc, Classical.not_not.1 h2⟩
  · intro hp
    obtain ⟨c, hc, rfl⟩ := List.mem_map.1 hp
    exact ⟨_, fun hf => hf (List.mem_map.2 ⟨c, hc, rfl⟩) rfl⟩
theorem touched_step {ch : List Chg} {l1 l2 : List File} {done rest : List Str} {p : Str} (h : CutL (pthF ch) done (p :: rest) l1 l2) (hs : (pthF ch).Pairwise fun a b => sLt a.path b.path = true) (hr : (done ++ p :: rest).Pairwise fun a b => sLt a b = true) :
    Ok (m227 n ch l1.length p) (fun b => (∃ l1' l2', StepL (pthF ch) done rest p l1 l2 b l1' l2') ∧ (b = true ↔ findF (pthF ch) p ≠ none)) := by
  have h0 := flag_step h hs hr
  have hl : (pthF ch).length = ch.length := by unfold pthF; rw [List.length_map]
  have h1 : Ok (cond (decide ((l1.length : Int) < (ch.length : Int))) (Option.bind (ixL ch l1.length) fun x1 => some ((decide (x1.path = p)))) (some (false))) (fun b => ∃ l1' l2', StepL (pthF ch) done rest p l1 l2 b l1' l2') := by
    rw [hl] at h0
    obtain ⟨b, hb, hP⟩ := h0
    refine ⟨b, ?_, hP⟩
    rw [← hb]
    congr 1
    unfold ixL
    rw [if_pos (by omega), if_pos (by omega)]
    unfold pthF
    rw [List.getElem?_map]
    cases ch[(l1.length : Int).toNat]? <;> rfl
  unfold m227
  refine Ok_ob1 (h1.mono (fun b hb => Ok.some' ⟨hb, ?_⟩))
  obtain ⟨l1', l2', hS⟩ := hb
  cases b with
  | true => obtain ⟨f, e, _⟩ := hS.tt rfl; rw [e]; simp
  | false => obtain ⟨e, _⟩ := hS.ff rfl; rw [e]; simp
theorem StepL.nxt {l l1 l2 l1' l2' : List File} {done rest : List Str} {p : Str} {b : Bool} (h : StepL l done rest p l1 l2 b l1' l2') (hl : l.length ≤ 1000) : cond b (wi ((l1.length : Int) + 1)) (l1.length : Int) = l1'.length := by
  have hc := congrArg List.length h.cut.eq
  rw [List.length_append] at hc
  cases b with
  | true =>
    obtain ⟨f, _, _, e⟩ := h.tt rfl
    show wi ((l1.length : Int) + 1) = _
    rw [wi_e (by omega) (by omega), e]
  | false => obtain ⟨_, e, _⟩ := h.ff rfl; rw [e]; rfl
theorem findF_dat {a b : List File} {p : Str} (ha : ∀ f, f ∈ a → f.mode = 0) (hb : ∀ f, f ∈ b → f.mode = 0) : findF a p = findF b p ↔ datF a p = datF b p := by
  unfold datF
  constructor
  · intro h; rw [h]
  · intro h
    cases ea : findF a p with
    | none =>
      cases eb : findF b p with
      | none => rfl
      | some g => rw [ea, eb] at h; cases h
    | some f =>
      cases eb : findF b p with
      | none => rw [ea, eb] at h; cases h
      | some g =>
        rw [ea, eb] at h
        have h := Option.some.inj h
        obtain ⟨f1, f2⟩ := findF_some ea
        obtain ⟨g1, g2⟩ := findF_some eb
        have := ha f f1
        have := hb g g1
        cases f; cases g; simp at *; simp [*]
theorem weave_ok {r : RepoR} {e : Engine} {sb so st : List File} (hn : 100000 ≤ n) (hb : Law sb) (ho : Law so) (ht : Law st) (mb : ∀ f, f ∈ sb → f.mode = 0) (mo : ∀ f, f ∈ so → f.mode = 0) (mt : ∀ f, f ∈ st → f.mode = 0) :
    ∃ e', m151 n r e sb so st = some ((mrgN n sb so st).1, (mrgN n sb so st).2, e') := by
  suffices Ok (m151 n r e sb so st) (fun r => r.1 = (mrgN n sb so st).1 ∧ r.2.1 = (mrgN n sb so st).2) by
    obtain ⟨⟨a, b, e'⟩, h1, rfl, rfl⟩ := this
    exact ⟨e', h1⟩
  unfold m151
  obtain ⟨l1, hd1, hc1⟩ := treeDiff_ok hn hb ho
  obtain ⟨l2, hd2, hc2⟩ := treeDiff_ok hn hb ht
  refine Ok_cl2 hd1 (Ok_cl2 hd2 (Ok_ob8 ?_))
  have sb_ := hb.srt
  have so_ := ho.srt
  have st_ := ht.srt
  have s1_ := pthF_srt hc1
  have s2_ := pthF_srt hc2
  have nb := hb.num
  have no := ho.num
  have nt := ht.num
  have hU := upaths_srt sb so st
  have hUm : ∀ p, p ∈ (upaths sb so st).map (·.path) ↔ (∃ x, x ∈ sb ∧ x.path = p) ∨ (∃ x, x ∈ so ∧ x.path = p) ∨ ∃ x, x ∈ st ∧ x.path = p := by
    intro p
    rw [List.mem_map, upaths_mem]
  have hUl : ((upaths sb so st).map (·.path)).length ≤ 24 := by
    rw [List.length_map]
    have l1 := addP_len sb []
    have l2 := addP_len so (addP [] sb)
    have l3 := addP_len st (addP (addP [] sb) so)
    simp only [List.length_nil] at l1
    unfold upaths; omega
  have hne : ∀ p, p ∈ (upaths sb so st).map (·.path) → p ≠ [] := by
    intro p hp e
    subst e
    have : ∀ {l : List File}, Law l → ¬ ∃ x, x ∈ l ∧ x.path = [] := by
      rintro l hl ⟨x, hx, e⟩
      have := (goodP_len (hl.good x hx)).1
      rw [e] at this
      exact absurd this (by decide)
    rcases (hUm []).1 hp with h | h | h
    · exact this hb h
    · exact this ho h
    · exact this ht h
  have hchg : ∀ {a b : List File} {ch : List Chg}, (∀ x, x ∈ a → x.path ∈ (upaths sb so st).map (·.path)) → (∀ x, x ∈ b → x.path ∈ (upaths sb so st).map (·.path)) → ChgOf a b ch → ∀ f, f ∈ pthF ch → f.path ∈ (upaths sb so st).map (·.path) := by
    intro a b ch h1 h2 hc f hf
    unfold pthF at hf
    obtain ⟨c, hc', rfl⟩ := List.mem_map.1 hf
    have := (hc.mem c.path).1 (List.mem_map.2 ⟨c, hc', rfl⟩)
    cases ea : findF a c.path with
    | some g => obtain ⟨g1, g2⟩ := findF_some ea; have := h1 g g1; rwa [g2] at this
    | none =>
      cases eb : findF b c.path with
      | some g => obtain ⟨g1, g2⟩ := findF_some eb; have := h2 g g1; rwa [g2] at this
      | none => rw [ea, eb] at this; exact absurd rfl this
  have inb : ∀ x, x ∈ sb → x.path ∈ (upaths sb so st).map (·.path) := fun x hx => (hUm _).2 (.inl ⟨x, hx, rfl⟩)
  have ino : ∀ x, x ∈ so → x.path ∈ (upaths sb so st).map (·.path) := fun x hx => (hUm _).2 (.inr (.inl ⟨x, hx, rfl⟩))
  have int_ : ∀ x, x ∈ st → x.path ∈ (upaths sb so st).map (·.path) := fun x hx => (hUm _).2 (.inr (.inr ⟨x, hx, rfl⟩))
  have in1 := hchg inb ino hc1
  have in2 := hchg inb int_ hc2
  unfold mrgN
  generalize (upaths sb so st).map (·.path) = U at hU hUm hUl hne inb ino int_ in1 in2 ⊢
  have n1 : (pthF l1).length ≤ 24 := by
    have : ((pthF l1).map (·.path)).length ≤ U.length := by
      have hnd : ((pthF l1).map (·.path)).Nodup := by
        rw [List.nodup_iff_pairwise_ne, List.pairwise_map]
        exact s1_.imp (fun h => sLt_ne h)
      exact hnd.length_le_of_subset (fun p hp => by obtain ⟨f, hf, rfl⟩ := List.mem_map.1 hp; exact in1 f hf)
    rw [List.length_map] at this; omega
  have n2 : (pthF l2).length ≤ 24 := by
    have : ((pthF l2).map (·.path)).length ≤ U.length := by
      have hnd : ((pthF l2).map (·.path)).Nodup := by
        rw [List.nodup_iff_pairwise_ne, List.pairwise_map]
        exact s2_.imp (fun h => sLt_ne h)
      exact hnd.length_le_of_subset (fun p hp => by obtain ⟨f, hf, rfl⟩ := List.mem_map.1 hp; exact in2 f hf)
    rw [List.length_map] at this; omega
  unfold m151_w1
  refine Ok_it8 (fun (l : List File) (k c4 c5 c6 c7 c8 : Int) (_ : Engine) => ∃ done rest b1 b2 o1 o2 t1 t2 x1 x2 y1 y2, U = done ++ rest ∧ CutL sb done rest b1 b2 ∧ CutL so done rest o1 o2 ∧ CutL st done rest t1 t2 ∧ CutL (pthF l1) done rest x1 x2 ∧ CutL (pthF l2) done rest y1 y2 ∧ c4 = b1.length ∧ c5 = o1.length ∧ c6 = t1.length ∧ c7 = x1.length ∧ c8 = y1.length ∧ l = (mrgL n sb so st done).1 ∧ k = (mrgL n sb so st done).2) (fun _ _ (c4 c5 c6 : Int) _ _ _ => ((sb.length : Int) - c4 + (so.length - c5) + (st.length - c6)).toNat) ?_ n [] 0 0 0 0 0 0 e
    ⟨[], U, [], sb, [], so, [], st, [], pthF l1, [], pthF l2, rfl, .zero inb, .zero ino, .zero int_, .zero in1, .zero in2, rfl, rfl, rfl, rfl, rfl, rfl, rfl⟩ (by show ((sb.length : Int) - 0 + (so.length - 0) + (st.length - 0)).toNat < n; omega)
  rintro Q lp l k c4 c5 c6 c7 c8 z1 hQ ⟨done, rest, b1, b2, o1, o2, t1, t2, x1, x2, y1, y2, hUe, cb, co, ct, cx, cy, rfl, rfl, rfl, rfl, rfl, rfl, rfl⟩ ih
  have bnd := mrgL_b (n := n) (b := sb) (o := so) (t := st) done
  have hdl : done.length ≤ 24 := by rw [hUe, List.length_append] at hUl; omega
  obtain ⟨gb, _⟩ := suf_ix cb.eq
  obtain ⟨go, _⟩ := suf_ix co.eq
  obtain ⟨gt, _⟩ := suf_ix ct.eq
  refine Ok_cond (fun hor => ?_) (fun hand => Ok.some' (hQ _ (Ok.some' ?_)))
  rotate_left
  · rw [Bool.or_eq_false_iff, Bool.or_eq_false_iff] at hand
    obtain ⟨⟨h1, h2⟩, h3⟩ := hand
    have h1 := of_decide_eq_false h1
    have h2 := of_decide_eq_false h2
    have h3 := of_decide_eq_false h3
    have eb : b2 = [] := Classical.byContradiction fun h => h1 (gb.2 h)
    have eo : o2 = [] := Classical.byContradiction fun h => h2 (go.2 h)
    have et : t2 = [] := Classical.byContradiction fun h => h3 (gt.2 h)
    subst eb eo et
    have hrest : rest = [] := by
      cases rest with
      | nil => rfl
      | cons p r =>
        exfalso
        have hr : (done ++ p :: r).Pairwise (fun a b => sLt a b = true) := by rw [← hUe]; exact hU
        rcases (hUm p).1 (by rw [hUe]; simp) with ⟨x, hx, e⟩ | ⟨x, hx, e⟩ | ⟨x, hx, e⟩
        · obtain ⟨t, ht⟩ := cut_has cb sb_ hr hx e; cases ht
        · obtain ⟨t, ht⟩ := cut_has co so_ hr hx e; cases ht
        · obtain ⟨t, ht⟩ := cut_has ct st_ hr hx e; cases ht
    rw [hrest, List.append_nil] at hUe
    rw [hUe]; exact ⟨rfl, rfl⟩
  have hrest : rest ≠ [] := by
    rintro rfl
    have z : ∀ {l l1 l2 : List File}, CutL l done [] l1 l2 → l2 = [] := by
      intro l l1 l2 h
      cases l2 with
      | nil => rfl
      | cons f t => have := h.hi f (by simp); cases this
    rw [z cb] at gb
    rw [z co] at go
    rw [z ct] at gt
    rw [decide_eq_false (fun h => gb.1 h rfl), decide_eq_false (fun h => go.1 h rfl), decide_eq_false (fun h => gt.1 h rfl)] at hor
    cases hor
  obtain ⟨p, rest, rfl⟩ : ∃ p r, rest = p :: r := by cases rest with | nil => exact absurd rfl hrest | cons p r => exact ⟨p, r, rfl⟩
  have hr : (done ++ p :: rest).Pairwise (fun a b => sLt a b = true) := by rw [← hUe]; exact hU
  have hp := hne p (by rw [hUe]; simp)
  refine Ok_ob1 ((lower_step cb sb_ hr hp (.inl rfl)).mono (fun q1 hq1 => Ok_ob1 ((lower_step co so_ hr hp hq1.1).mono (fun q2 hq2 => Ok_ob1 ((lower_step ct st_ hr hp hq2.1).mono (fun q3 hq3 => ?_))))))
  have hq3 : q3 = p := by
    rcases (hUm p).1 (by rw [hUe]; simp) with ⟨x, hx, e⟩ | ⟨x, hx, e⟩ | ⟨x, hx, e⟩
    · obtain ⟨t, ht⟩ := cut_has cb sb_ hr hx e; exact hq3.2.1 (hq2.2.1 (hq1.2.2 x t ht e))
    · obtain ⟨t, ht⟩ := cut_has co so_ hr hx e; exact hq3.2.1 (hq2.2.2 x t ht e)
    · obtain ⟨t, ht⟩ := cut_has ct st_ hr hx e; exact hq3.2.2 x t ht e
  subst hq3
  refine Ok_ob2 ((here_step cb sb_ hr).mono (fun rb hrb => Ok_ob2 ((here_step co so_ hr).mono (fun ro hro => Ok_ob2 ((here_step ct st_ hr).mono (fun rt hrt => ?_))))))
  refine Ok_ob1 ((touched_step cx s1_ hr).mono (fun fx hfx => Ok_ob1 ((touched_step cy s2_ hr).mono (fun fy hfy => ?_))))
  obtain ⟨vb, fb⟩ := rb
  obtain ⟨vo, fo⟩ := ro
  obtain ⟨vt, ft⟩ := rt
  obtain ⟨⟨b1', b2', Sb⟩, hvb, hfb⟩ := hrb
  obtain ⟨⟨o1', o2', So⟩, hvo, hfo⟩ := hro
  obtain ⟨⟨t1', t2', St⟩, hvt, hft⟩ := hrt
  obtain ⟨⟨x1', x2', Sx⟩, hfx⟩ := hfx
  obtain ⟨⟨y1', y2', Sy⟩, hfy⟩ := hfy
  dsimp only at hvb hvo hvt hfb hfo hft ⊢
  rw [pthF_find hc1, Ne, findF_dat mb mo] at hfx
  rw [pthF_find hc2, Ne, findF_dat mb mt] at hfy
  have db := datF_len (fun f hf => Nat.le_trans (hb.size f hf) (by decide)) q3
  have do_ := datF_len (fun f hf => Nat.le_trans (ho.size f hf) (by decide)) q3
  have dt := datF_len (fun f hf => Nat.le_trans (ht.size f hf) (by decide)) q3
  -- what is put
  have put : ∀ {d : Option Str} {b : Bool} {v : Str} {z : Engine}, (b = true ↔ d ≠ none) → v = d.getD [] → mrgP n q3 (datF sb q3) (datF so q3) (datF st q3) = (d.map fun d => ({ path := q3, data := d, mode := 0 } : File), 0) → Ok (cond b (
      Option.bind (apd (mrgL n sb so st done).1 ({ File.zero with path := q3, data := v })) fun l6 => some (l6, (mrgL n sb so st done).2, z)) (
      some ((mrgL n sb so st done).1, (mrgL n sb so st done).2, z))) (fun w => w.1 = (mrgL n sb so st done).1 ++ (mrgP n q3 (datF sb q3) (datF so q3) (datF st q3)).1.toList ∧ w.2.1 = (mrgL n sb so st done).2 + (mrgP n q3 (datF sb q3) (datF so q3) (datF st q3)).2) := by
    intro d b v z h1 h2 h3
    rw [h3]
    cases d with
    | none =>
      have : b = false := by rw [← Bool.not_eq_true]; exact fun e => h1.1 e rfl
      subst this
      exact Ok.some' ⟨by simp, by simp⟩
    | some s =>
      have : b = true := h1.2 (by simp)
      subst this
      refine Ok_apd (by omega) (Ok.some' ⟨?_, by simp⟩)
      rw [h2]; rfl
  have hcc : ((!fy) || ((fo == ft) && (decide (vo = vt)))) = decide (datF so q3 = datF st q3 ∨ datF st q3 = datF sb q3) := by
    have e1 : fy = decide (¬ datF sb q3 = datF st q3) := by
      by_cases h : datF sb q3 = datF st q3
      · rw [decide_eq_false (fun h2 => h2 h)]; exact Bool.eq_false_iff.2 (fun h2 => hfy.1 h2 h)
      · rw [decide_eq_true h]; exact hfy.2 h
    have e2 : ((fo == ft) && (decide (vo = vt))) = decide (datF so q3 = datF st q3) := by
      rw [hvo, hvt]
      have g1 : fo = (datF so q3).isSome := by
        rw [Bool.eq_iff_iff, hfo, Option.isSome_iff_ne_none]
      have g2 : ft = (datF st q3).isSome := by
        rw [Bool.eq_iff_iff, hft, Option.isSome_iff_ne_none]
      rw [g1, g2]
      cases datF so q3 <;> cases datF st q3 <;> simp
    rw [e1, e2]
    by_cases h1 : datF sb q3 = datF st q3
    · rw [decide_eq_false (fun h2 => h2 h1), decide_eq_true (p := _ ∨ _) (.inr h1.symm)]; rfl
    · rw [decide_eq_true h1]
      show decide (datF so q3 = datF st q3) = _
      exact decide_eq_decide.2 ⟨.inl, fun h => h.resolve_right (fun h2 => h1 h2.symm)⟩
  rw [hcc]
  obtain ⟨e4, hmg⟩ := merge_ok (e := z1) hn db do_ dt
  rw [← hvb, ← hvo, ← hvt] at hmg
  have hm0 := merge3_len hn db do_ dt
  rw [← hvb, ← hvo, ← hvt] at hm0
  refine Ok_ob3 ((show Ok _ (fun (w : List File × Int × Engine) => w.1 = (mrgL n sb so st done).1 ++ (mrgP n q3 (datF sb q3) (datF so q3) (datF st q3)).1.toList ∧ w.2.1 = (mrgL n sb so st done).2 + (mrgP n q3 (datF sb q3) (datF so q3) (datF st q3)).2) from ?_).mono (fun w hw => ?_))
  · refine Ok_ite (fun h => put hfo hvo (by unfold mrgP; rw [if_pos h])) (fun h => Ok_iteN (fun h2 => put hft hvt ?_) (fun h2 => ?_))
    · have : datF so q3 = datF sb q3 := Classical.byContradiction fun h3 => by
        have := hfx.2 (fun h4 => h3 h4.symm)
        rw [h2] at this; cases this
      unfold mrgP; rw [if_neg h, if_pos this]
    · have h3 : ¬ datF so q3 = datF sb q3 := fun h3 => hfx.1 h2 h3.symm
      have hP : mrgP n q3 (datF sb q3) (datF so q3) (datF st q3) = if (merge3 n vb vo vt).2 = 0 then (some { path := q3, data := (merge3 n vb vo vt).1, mode := 0 }, 0) else (some { path := q3, data := (merge3 n vb vo vt).1, mode := 1 }, 1) := by
        unfold mrgP; rw [if_neg h, if_neg h3, ← hvb, ← hvo, ← hvt]
      refine Ok_cl4 hmg (Ok_nmz (fun z5 hz5 => ?_))
      subst hz5
      refine Ok_ite (fun hpos => Ok_nmz (fun z6 hz6 => ?_)) (fun hz => ?_)
      · subst hz6
        rw [hP, if_neg (by omega)]
        refine Ok_apd (by omega) (Ok.some' ⟨rfl, ?_⟩)
        show wi _ = _
        rw [wi_e (by omega) (by omega)]
      · rw [hP, if_pos (by omega)]
        exact Ok_apd (by omega) (Ok.some' ⟨rfl, by simp⟩)
  · obtain ⟨w1, w2, w3⟩ := w
    obtain ⟨rfl, rfl⟩ := hw
    dsimp only
    refine Ok_ob1 ((show Ok _ (fun v => v = cond fb (wi ((b1.length : Int) + 1)) (b1.length : Int)) from Ok_cond (fun e => Ok.some' (by rw [e]; rfl)) (fun e => Ok.some' (by rw [e]; rfl))).mono (fun v hv => ?_))
    subst hv
    have lb := Sb.nxt (by omega)
    have lo := So.nxt (by omega)
    have lt := St.nxt (by omega)
    have lx := Sx.nxt (by omega)
    have ly := Sy.nxt (by omega)
    have hnext : Ok (lp ((mrgL n sb so st done).1 ++ (mrgP n q3 (datF sb q3) (datF so q3) (datF st q3)).1.toList) ((mrgL n sb so st done).2 + (mrgP n q3 (datF sb q3) (datF so q3) (datF st q3)).2) (cond fb (wi ((b1.length : Int) + 1)) (b1.length : Int)) (cond fo (wi ((o1.length : Int) + 1)) (o1.length : Int)) (cond ft (wi ((t1.length : Int) + 1)) (t1.length : Int)) (cond fx (wi ((x1.length : Int) + 1)) (x1.length : Int)) (cond fy (wi ((y1.length : Int) + 1)) (y1.length : Int)) w3) Q := by
      rw [lb, lo, lt, lx, ly]
      refine ih _ _ _ _ _ _ _ _ ⟨done ++ [q3], rest, b1', b2', o1', o2', t1', t2', x1', x2', y1', y2', by rw [hUe]; simp, Sb.cut, So.cut, St.cut, Sx.cut, Sy.cut, rfl, rfl, rfl, rfl, rfl, by rw [mrgL_snoc], by rw [mrgL_snoc]⟩ ?_
      have cnt : ∀ {l l1 l2 l1' l2' : List File} {b : Bool}, StepL l done rest q3 l1 l2 b l1' l2' → (l1.length : Int) ≤ l1'.length ∧ (l1'.length : Int) ≤ l.length ∧ (b = true → (l1'.length : Int) = l1.length + 1) := by
        intro l l1 l2 l1' l2' b h
        have hc := congrArg List.length h.cut.eq
        rw [List.length_append] at hc
        cases b with
        | true => obtain ⟨f, _, _, e⟩ := h.tt rfl; exact ⟨by omega, by omega, fun _ => e⟩
        | false => obtain ⟨_, e, _⟩ := h.ff rfl; rw [e] at hc ⊢; exact ⟨by omega, by omega, fun e => nomatch e⟩
      have k1 := cnt Sb
      have k2 := cnt So
      have k3 := cnt St
      have one : fb = true ∨ fo = true ∨ ft = true := by
        rcases (hUm q3).1 (by rw [hUe]; simp) with ⟨x, hx, e⟩ | ⟨x, hx, e⟩ | ⟨x, hx, e⟩
        · exact .inl (hfb.2 (fun h => findF_none.1 (Option.map_eq_none_iff.1 h) x hx e))
        · exact .inr (.inl (hfo.2 (fun h => findF_none.1 (Option.map_eq_none_iff.1 h) x hx e)))
        · exact .inr (.inr (hft.2 (fun h => findF_none.1 (Option.map_eq_none_iff.1 h) x hx e)))
      have : (b1'.length : Int) + o1'.length + t1'.length ≥ b1.length + o1.length + t1.length + 1 := by
        rcases one with h | h | h
        · have := k1.2.2 h; omega
        · have := k2.2.2 h; omega
        · have := k3.2.2 h; omega
      omega
    clear ih put
    revert hnext
    generalize (mrgL n sb so st done).1 ++ (mrgP n q3 (datF sb q3) (datF so q3) (datF st q3)).1.toList = A
    generalize (mrgL n sb so st done).2 + (mrgP n q3 (datF sb q3) (datF so q3) (datF st q3)).2 = B
    intro hnext
    cases fo <;> cases ft <;> cases fx <;> cases fy <;> exact hnext
end
end Go.Proofs.Qxb6500350aGreat
