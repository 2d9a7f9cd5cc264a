/- THE PLAIN LAW of the law's walk: the lists that a look holds. No Go in sight. -/
import Derived.Test.Qxb6500351aGreatPl42
import Derived.Test.Qxb6500351aGreatMd20
set_option linter.unusedVariables false
set_option linter.unusedSimpArgs false
namespace Go.Proofs.Qxb6500351aGreat
open Go.Eng
/-- what is listed is well formed -/
structure EntOk (H : Hst) : Prop where
  srt : H.t.list.Pairwise (· < ·) ∧ ∀ sd, sd ∈ H.t.list → 1 ≤ sd
  ent : ∀ sd, sd ∈ H.t.list → H.err sd = 0 ∧ (H.ent sd).sd = sd ∧ ((H.ent sd).kind = 1 ∨ ((H.ent sd).kind = 2 ∧ 0 ≤ (H.ent sd).slot ∧ (H.ent sd).slot < 4))
theorem Inv.entOk {w : W} (I : Inv w) {h : Nat} (h3 : h < 3) : EntOk (w.H h) := by
  have HI := I.hi h h3
  obtain ⟨l1, l2, l3⟩ := HI.good.r.list
  refine ⟨⟨l1, fun sd hsd => ?_⟩, fun sd hsd => ?_⟩
  · obtain ⟨e, he⟩ := (l3 sd).1 hsd
    obtain ⟨i, i1, _, i3, i4⟩ := Tb.at_row he
    have := (HI.good.r.sd i e i1 i3).1; omega
  · obtain ⟨e, he⟩ := (l3 sd).1 hsd
    obtain ⟨i, i1, _, i3, i4⟩ := Tb.at_row he
    obtain ⟨a, b⟩ := ent_of he
    rw [a]
    refine ⟨b, i4, ?_⟩
    rcases HI.good.r.kind i e i1 i3 with k | k
    · exact .inl k.kind
    · exact .inr ⟨k.kind, k.slot⟩
theorem list_getD {l : List Int} {k : Nat} (h : k < l.length) : l.getD k 0 ∈ l := by
  rw [List.getD_eq_getElem?_getD, List.getElem?_eq_getElem h]; exact List.getElem_mem h
theorem Inv.chkOk {w : W} (I : Inv w) {h : Nat} (h3 : h < 3) : (w.H h).ChkOk := by
  have HI := I.hi h h3
  obtain ⟨l1, l2, l3⟩ := HI.good.r.list
  have EO := I.entOk h3
  refine ⟨fun k hk => ?_, fun s hs hf => ?_⟩
  · have hm := list_getD hk
    obtain ⟨e, he⟩ := (l3 _).1 hm
    obtain ⟨a, b⟩ := ent_of he
    refine ⟨b, fun hkk => ?_⟩
    rw [a] at hkk ⊢
    obtain ⟨i, i1, i2, i3, i4, i5, r⟩ := I.end_of h3 he hkk
    have hcn : (w.H h).cn ((w.H h).t.list.getD k 0) = (w.H h).c e.slot.toNat := by unfold Hst.cn; rw [a]
    rw [hcn]
    obtain ⟨ri, ri1, _, ri3, ri4⟩ := Tb.at_row he
    have ce := HI.good.kindC ri1 ri3 (by omega)
    have st : ((w.H h).c e.slot.toNat).x.st ≠ 0 ∧ (e.ready = true → ((w.H h).c e.slot.toNat).x.st = 3 ∨ ((w.H h).c e.slot.toNat).x.st = 4) := by
      cases I.sta i i1 e _ r with
      | syn cl pe o t pa nc wo z zs =>
        refine ⟨by have := o.st; omega, fun hr => absurd pa (ce.ready hr)⟩
      | srv p cl pe o t pa nx nc wo z zs =>
        refine ⟨by have := o.st; omega, fun hr => ?_⟩
        have := I.rd i i1 e _ r pa
        rw [hr, wo] at this; cases this
      | well p m rel wl =>
        rcases wl.st with q | q
        · exact ⟨by have := q.1.st; omega, fun _ => .inl q.1.st⟩
        · exact ⟨by have := q.1; omega, fun _ => .inr q.1⟩
      | bad st => exact ⟨by omega, fun _ => .inr st⟩
    refine ⟨ce.slot, st.1, st.2, fun j hj hjk => ?_⟩
    have hmj := list_getD (l := (w.H h).t.list) (k := j) (by omega)
    obtain ⟨e', he'⟩ := (l3 _).1 hmj
    obtain ⟨a', b'⟩ := ent_of he'
    rw [a'] at hjk ⊢
    obtain ⟨rj, rj1, _, rj3, rj4⟩ := Tb.at_row he'
    have ce' := HI.good.kindC rj1 rj3 (by omega)
    intro hs
    have h1 := ce.slot
    have h2 := ce'.slot
    have := HI.good.r.slots rj ri e' e rj1 ri1 rj3 ri3 hjk hkk (by omega)
    subst this
    rw [ri3] at rj3
    cases rj3
    have hlt : (w.H h).t.list.getD j 0 < (w.H h).t.list.getD k 0 := by
      rw [List.getD_eq_getElem?_getD, List.getD_eq_getElem?_getD, List.getElem?_eq_getElem hk, List.getElem?_eq_getElem (by omega : j < (w.H h).t.list.length)]
      exact List.pairwise_iff_getElem.1 l1 j k (by omega) hk hj
    omega
  · refine HI.idle s hs (fun sd e he hk => ?_)
    have hm := (l3 sd).2 ⟨e, he⟩
    obtain ⟨k, hk1, hk2⟩ := List.getElem_of_mem hm
    have hg : (w.H h).t.list.getD k 0 = sd := by rw [List.getD_eq_getElem?_getD, List.getElem?_eq_getElem hk1, ← hk2]; rfl
    have := hf k hk1
    rw [hg, (ent_of he).1] at this
    intro hs'
    have := this hk
    omega
/-! ### the largest descriptor -/
theorem topTo_ok {seen : List Int} {nx : Int} (hns : nx ∉ seen) : ∀ (l : List Int) (t : Int), l.Nodup → (∀ x, x ∈ l → x ∈ seen ∨ x = nx) → (nx ∈ l → t < nx) → topTo seen l t = some (if nx ∈ l then nx else t)
  | [], t, _, _, _ => by simp [topTo]
  | x :: l, t, hn, h, ht => by
    obtain ⟨n1, n2⟩ := List.nodup_cons.1 hn
    unfold topTo topStep
    by_cases hx : x ∈ seen
    · rw [if_pos hx]
      dsimp only
      have hne : x ≠ nx := fun k => hns (k ▸ hx)
      rw [topTo_ok hns l t n2 (fun y hy => h y (List.mem_cons_of_mem _ hy)) (fun k => ht (List.mem_cons_of_mem _ k))]
      congr 1
      have : nx ∈ x :: l ↔ nx ∈ l := by rw [List.mem_cons]; exact ⟨fun k => k.resolve_left (fun k => hne k.symm), .inr⟩
      by_cases hm : nx ∈ l
      · rw [if_pos hm, if_pos (this.2 hm)]
      · rw [if_neg hm, if_neg (fun k => hm (this.1 k))]
    · have hxn : x = nx := (h x (List.mem_cons_self ..)).resolve_left hx
      subst hxn
      have := ht (List.mem_cons_self ..)
      rw [if_neg hx, if_neg (by omega)]
      dsimp only
      rw [topTo_ok hns l x n2 (fun y hy => h y (List.mem_cons_of_mem _ hy)) (fun k => absurd k n1), if_neg n1, if_pos (List.mem_cons_self ..)]
/-! ### the accept order -/
def rdyP (c : Int) (H : Hst) (r : List Wt) (sd : Int) : Bool := decide ((H.ent sd).kind = 2) && decide ((H.ent sd).parent ≠ 0) && (H.ent sd).ready && !(r.any (wAt c sd))
def rdyM (c : Int) (H : Hst) (sd : Int) : Wt := ⟨c, sd, (H.ent sd).parent⟩
theorem rdyP_iff {c : Int} {H : Hst} {r : List Wt} {sd : Int} : rdyP c H r sd = true ↔ (H.ent sd).kind = 2 ∧ (H.ent sd).parent ≠ 0 ∧ (H.ent sd).ready = true ∧ waitsI r c sd < 0 := by
  unfold rdyP
  rw [waitsI_neg]
  simp only [Bool.and_eq_true, decide_eq_true_eq, Bool.not_eq_true', List.any_eq_false, wAt, and_assoc]
theorem rdyTo_eq (c : Int) (H : Hst) : ∀ (l : List Int) (r : List Wt), l.Nodup → rdyTo c H l r = r ++ (l.filter (rdyP c H r)).map (rdyM c H)
  | [], r, _ => by simp [rdyTo]
  | sd :: l, r, hn => by
    obtain ⟨n1, n2⟩ := List.nodup_cons.1 hn
    simp only [rdyTo]
    by_cases hp : rdyP c H r sd = true
    · have e1 : rdyStep c H r sd = r ++ [rdyM c H sd] := by unfold rdyStep; rw [if_pos (rdyP_iff.1 hp)]; rfl
      rw [e1, rdyTo_eq c H l _ n2, List.filter_cons_of_pos hp, List.map_cons, List.append_assoc]
      congr 1
      rw [List.singleton_append]
      congr 2
      refine List.filter_congr fun x hx => ?_
      unfold rdyP
      have : (r ++ [rdyM c H sd]).any (wAt c x) = r.any (wAt c x) := by
        rw [List.any_append]
        have hne : sd ≠ x := fun k => n1 (k ▸ hx)
        simp [wAt, rdyM, hne]
      rw [this]
    · have e1 : rdyStep c H r sd = r := by unfold rdyStep; rw [if_neg (fun k => hp (rdyP_iff.2 k))]
      rw [e1, rdyTo_eq c H l _ n2, List.filter_cons_of_neg hp]
def wOf (h p : Int) (r : Wt) : Bool := decide (r.host = h) && decide (r.parent = p)
/-- the accept order tells the queues -/
structure RdyI (w : W) (r : List Wt) : Prop where
  q : ∀ h : Nat, h < 3 → ∀ p : Int, p ≠ 0 → (r.filter (wOf h p)).map (·.sd) = w.q h p
  hr : ∀ x, x ∈ r → 0 ≤ x.host ∧ x.host < 3 ∧ x.parent ≠ 0
theorem filter_of_sublist {a b : List Int} (s : a.Sublist b) (nd : b.Nodup) : b.filter (fun x => decide (x ∈ a)) = a := by
  induction s with
  | slnil => rfl
  | cons x s ih =>
    obtain ⟨n1, n2⟩ := List.nodup_cons.1 nd
    rw [List.filter_cons_of_neg, ih n2]
    simpa using fun k => n1 (s.subset k)
  | cons_cons x s ih =>
    rename_i l1 l2
    obtain ⟨n1, n2⟩ := List.nodup_cons.1 nd
    rw [List.filter_cons_of_pos (by simp)]
    congr 1
    rw [← ih n2]
    refine (List.filter_congr fun y hy => ?_)
    have : y ≠ x := fun k => n1 (k ▸ hy)
    simp only [List.mem_cons, this, false_or]
    rw [ih n2]
theorem filter_single {l : List Int} {x : Int} {p : Int → Bool} (nd : l.Nodup) (hx : x ∈ l) (hp : ∀ y, y ∈ l → (p y = true ↔ y = x)) : l.filter p = [x] := by
  have e : l.filter p = l.filter (fun y => decide (y ∈ [x])) := List.filter_congr fun y hy => by
    by_cases h : y = x
    · rw [(hp y hy).2 h]; simp [h]
    · have : p y = false := by
        cases hh : p y with
        | false => rfl
        | true => exact absurd ((hp y hy).1 hh) h
      rw [this]; simp [h]
  rw [e]
  exact filter_of_sublist (List.singleton_sublist.2 hx) nd
theorem filter_none {l : List Int} {p : Int → Bool} (hp : ∀ y, y ∈ l → p y = false) : l.filter p = [] := by
  rw [List.filter_eq_nil_iff]; intro a ha; rw [hp a ha]; decide
theorem RdyI.next {w w' : W} {H : Nat → Hst} (I : Inv w) (I' : Inv w') (hH : ∀ h, h < 3 → H h = w'.H h) (hs : ∀ h, h < 3 → HStep w w' h) {r r1 r2 r3 : List Wt} (R : RdyI w r) (e1 : r1 = rdyTo 0 (H 0) (H 0).t.list r) (e2 : r2 = rdyTo 1 (H 1) (H 1).t.list r1) (e3 : r3 = rdyTo 2 (H 2) (H 2).t.list r2) : RdyI w' (r3.filter (keepW H)) := by
  have nd : ∀ h, h < 3 → (H h).t.list.Nodup := fun h h3 => by rw [hH h h3]; exact sorted_nodup (I'.hi h h3).good.r.list.1
  -- three times the children that became ready
  have anyN : ∀ (c d : Int) (K : Hst) (l : List Int) (s : List Wt), c ≠ d → ∀ sd, (s ++ (l.map (rdyM c K))).any (wAt d sd) = s.any (wAt d sd) := fun c d K l s hcd sd => by
    rw [List.any_append]
    have : (l.map (rdyM c K)).any (wAt d sd) = false := by
      rw [List.any_eq_false]
      intro x hx
      obtain ⟨y, _, rfl⟩ := List.mem_map.1 hx
      simp [wAt, rdyM, hcd]
    rw [this, Bool.or_false]
  obtain ⟨A, hA⟩ : ∃ A : Nat → List Int, ∀ h, A h = (H h).t.list.filter (rdyP h (H h) r) := ⟨_, fun _ => rfl⟩
  have f1 : r1 = r ++ (A 0).map (rdyM 0 (H 0)) := by rw [e1, rdyTo_eq _ _ _ _ (nd 0 (by omega)), hA]; rfl
  have f2 : r2 = r1 ++ (A 1).map (rdyM 1 (H 1)) := by
    rw [e2, rdyTo_eq _ _ _ _ (nd 1 (by omega)), hA]
    congr 2
    refine List.filter_congr fun x _ => ?_
    unfold rdyP
    rw [f1, anyN 0 1 _ _ _ (by decide)]; rfl
  have f3 : r3 = r2 ++ (A 2).map (rdyM 2 (H 2)) := by
    rw [e3, rdyTo_eq _ _ _ _ (nd 2 (by omega)), hA]
    congr 2
    refine List.filter_congr fun x _ => ?_
    unfold rdyP
    rw [f2, anyN 1 2 _ _ _ (by decide), f1, anyN 0 2 _ _ _ (by decide)]; rfl
  have hmemA : ∀ (h : Nat) sd, sd ∈ A h → sd ∈ (H h).t.list ∧ ((H h).ent sd).kind = 2 ∧ ((H h).ent sd).parent ≠ 0 ∧ ((H h).ent sd).ready = true ∧ waitsI r h sd < 0 := fun h sd hsd => by
    rw [hA, List.mem_filter] at hsd
    exact ⟨hsd.1, rdyP_iff.1 hsd.2⟩
  have hmem : ∀ x, x ∈ r3 → x ∈ r ∨ ∃ h : Nat, h < 3 ∧ ∃ sd, sd ∈ A h ∧ x = rdyM h (H h) sd := fun x hx => by
    rw [f3, f2, f1] at hx
    simp only [List.mem_append, List.mem_map] at hx
    rcases hx with ((k | ⟨sd, a, b⟩) | ⟨sd, a, b⟩) | ⟨sd, a, b⟩
    · exact .inl k
    · exact .inr ⟨0, by omega, sd, a, b.symm⟩
    · exact .inr ⟨1, by omega, sd, a, b.symm⟩
    · exact .inr ⟨2, by omega, sd, a, b.symm⟩
  refine ⟨fun h h3 p hp => ?_, fun x hx => ?_⟩
  rotate_left
  · have hx := (List.mem_filter.1 hx).1
    rcases hmem x hx with k | ⟨h, h3, sd, a, rfl⟩
    · exact R.hr x k
    · exact ⟨by show (0 : Int) ≤ (h : Int); omega, by show (h : Int) < 3; omega, (hmemA h sd a).2.2.1⟩
  · have G' := (I'.hi h h3).good
    have G := (I.hi h h3).good
    have hHh := hH h h3
    -- who keeps its place
    have look : ∀ sd, ((H h).err sd = 0 ∧ ((H h).ent sd).ready = true ∧ ((H h).ent sd).parent = p) ↔ sd ∈ w'.q h p := fun sd => by
      rw [G'.q.m, hHh]
      constructor
      · rintro ⟨a, b, c⟩
        cases he : (w'.H h).t.at sd with
        | none => rw [ent_no he] at a; exact absurd a (by decide)
        | some e =>
          obtain ⟨en, _⟩ := ent_of he
          rw [en] at b c
          obtain ⟨i, i1, _, i3, i4⟩ := Tb.at_row he
          have ck : e.kind = 2 := by
            rcases G'.r.kind i e i1 i3 with k | k
            · rw [k.ready] at b; cases b
            · exact k.kind
          exact ⟨i, e, i1, i3, i4, ck, c, b⟩
      · rintro ⟨i, e, i1, i3, i4, ck, c, b⟩
        have he : (w'.H h).t.at sd = some e := by rw [← i4]; exact (G'.r.at_of i1 i3).1
        obtain ⟨en, er⟩ := ent_of he
        rw [en]; exact ⟨er, b, c⟩
    have oth : ∀ (g : Nat) (l : List Int), g ≠ h → ((l.map (rdyM g (H g))).filter (fun x => keepW H x && wOf h p x)) = [] := fun g l hg => by
      rw [List.filter_eq_nil_iff]
      intro x hx
      obtain ⟨y, _, rfl⟩ := List.mem_map.1 hx
      have : ¬ ((g : Int) = (h : Int)) := by omega
      simp [wOf, rdyM, this]
    have self : ((A h).map (rdyM h (H h))).filter (fun x => keepW H x && wOf h p x) = ((A h).filter (fun sd => decide (((H h).ent sd).parent = p))).map (rdyM h (H h)) := by
      rw [List.filter_map]
      congr 1
      refine List.filter_congr fun sd hsd => ?_
      obtain ⟨q1, q2, q3, q4, q5⟩ := hmemA h sd hsd
      have er : (H h).err sd = 0 := by
        rw [hHh] at q1 ⊢
        exact ((I'.entOk h3).ent sd q1).1
      simp [keepW, rdyM, wOf, er, q4]
      all_goals first | rfl | congr | (rw [Bool.eq_iff_iff, decide_eq_true_eq, decide_eq_true_eq])
    have parts : (r3.filter (keepW H)).filter (wOf h p) = (r.filter (fun x => keepW H x && wOf h p x)) ++ ((A h).filter (fun sd => decide (((H h).ent sd).parent = p))).map (rdyM h (H h)) := by
      rw [List.filter_filter]
      have e0 : (fun x => wOf h p x && keepW H x) = fun x => keepW H x && wOf h p x := by funext x; rw [Bool.and_comm]
      rw [e0, f3, f2, f1, List.filter_append, List.filter_append, List.filter_append]
      have hh : h = 0 ∨ h = 1 ∨ h = 2 := by omega
      rcases hh with rfl | rfl | rfl
      · have o1 := oth 1 (A 1) (by omega)
        have o2 := oth 2 (A 2) (by omega)
        rw [show (rdyM 1 (H 1)) = rdyM ((1 : Nat) : Int) (H 1) from rfl, show (rdyM 2 (H 2)) = rdyM ((2 : Nat) : Int) (H 2) from rfl, o1, o2, List.append_nil, List.append_nil, ← self]; rfl
      · have o1 := oth 0 (A 0) (by omega)
        have o2 := oth 2 (A 2) (by omega)
        rw [show (rdyM 0 (H 0)) = rdyM ((0 : Nat) : Int) (H 0) from rfl, show (rdyM 2 (H 2)) = rdyM ((2 : Nat) : Int) (H 2) from rfl, o1, o2, List.append_nil, List.append_nil, ← self]; rfl
      · have o1 := oth 0 (A 0) (by omega)
        have o2 := oth 1 (A 1) (by omega)
        rw [show (rdyM 0 (H 0)) = rdyM ((0 : Nat) : Int) (H 0) from rfl, show (rdyM 1 (H 1)) = rdyM ((1 : Nat) : Int) (H 1) from rfl, o1, o2, List.append_nil, List.append_nil, ← self]; rfl
    rw [parts, List.map_append, List.map_map]
    have eid : ((fun x : Wt => x.sd) ∘ rdyM h (H h)) = id := by funext x; rfl
    rw [eid, List.map_id]
    -- the old ones
    have old : (r.filter (fun x => keepW H x && wOf h p x)).map (·.sd) = (w.q h p).filter (fun sd => decide (sd ∈ w'.q h p)) := by
      rw [← R.q h h3 p hp, List.filter_map, List.filter_filter]
      congr 1
      refine List.filter_congr fun x _ => ?_
      by_cases hw : wOf h p x = true
      · rw [hw, Bool.and_true, Bool.and_true]
        unfold wOf at hw
        rw [Bool.and_eq_true, decide_eq_true_eq, decide_eq_true_eq] at hw
        have ht : x.host.toNat = h := by rw [hw.1]; simp
        have := look x.sd
        unfold keepW
        rw [ht, hw.2]
        simp only [Function.comp_apply]
        rw [Bool.eq_iff_iff, Bool.and_eq_true, Bool.and_eq_true, decide_eq_true_eq, decide_eq_true_eq, decide_eq_true_eq, and_assoc]
        exact this
      · rw [Bool.not_eq_true] at hw
        rw [hw, Bool.and_false, Bool.and_false]
    rw [old]
    have anyq : ∀ sd, waitsI r h sd < 0 → ∀ p0, p0 ≠ 0 → sd ∉ w.q h p0 := fun sd hw p0 hp0 hm => by
      rw [waitsI_neg] at hw
      rw [← R.q h h3 p0 hp0, List.mem_map] at hm
      obtain ⟨x, hx, hxs⟩ := hm
      rw [List.mem_filter] at hx
      have := hx.2
      unfold wOf at this
      rw [Bool.and_eq_true, decide_eq_true_eq] at this
      exact hw x hx.1 ⟨this.1, hxs⟩
    have inA : ∀ sd, sd ∈ A h → ((H h).ent sd).parent = p → sd ∈ w'.q h p ∧ ∀ p0, p0 ≠ 0 → sd ∉ w.q h p0 := fun sd hsd hpp => by
      obtain ⟨q1, q2, q3, q4, q5⟩ := hmemA h sd hsd
      refine ⟨(look sd).1 ⟨?_, q4, hpp⟩, anyq sd q5⟩
      rw [hHh] at q1 ⊢
      exact ((I'.entOk h3).ent sd q1).1
    rcases (hs h h3).qs with sub | ⟨x0, sd0, hq⟩
    · rw [filter_of_sublist (sub p) (G.q.nd p), filter_none (fun sd hsd => ?_), List.append_nil]
      rw [decide_eq_false_iff_not]
      intro hpp
      obtain ⟨a, b⟩ := inA sd hsd hpp
      exact b p hp ((sub p).subset a)
    · by_cases hpx : p = x0
      · subst hpx
        have hqp : w'.q h p = w.q h p ++ [sd0] := by rw [hq, updQ_at]
        have hnd := G'.q.nd p
        rw [hqp] at hnd
        have hn0 : sd0 ∉ w.q h p := by
          rw [List.nodup_append] at hnd
          exact fun k => hnd.2.2 sd0 k sd0 (List.mem_singleton_self _) rfl
        have l0 : sd0 ∈ w'.q h p := by rw [hqp]; simp
        obtain ⟨g1, g2, g3⟩ := (look sd0).2 l0
        have hlist : sd0 ∈ (H h).t.list := by
          rw [hHh]
          refine (G'.r.list.2.2 sd0).2 ?_
          rw [hHh] at g1
          cases he : (w'.H h).t.at sd0 with
          | none => rw [ent_no he] at g1; exact absurd g1 (by decide)
          | some e => exact ⟨e, rfl⟩
        have hkind : ((H h).ent sd0).kind = 2 := by
          rcases ((I'.entOk h3).ent sd0 (by rw [← hHh]; exact hlist)).2.2 with k | k
          · exfalso
            rw [G'.q.m] at l0
            obtain ⟨i, e, i1, i3, i4, ck, _⟩ := l0
            have he : (w'.H h).t.at sd0 = some e := by rw [← i4]; exact (G'.r.at_of i1 i3).1
            rw [(ent_of he).1] at k; omega
          · rw [hHh]; exact k.1
        have hw0 : waitsI r h sd0 < 0 := by
          rw [waitsI_neg]
          rintro x hx ⟨a, b⟩
          have hxp := (R.hr x hx).2.2
          have hin : sd0 ∈ w.q h x.parent := by
            rw [← R.q h h3 x.parent hxp, List.mem_map]
            exact ⟨x, List.mem_filter.2 ⟨hx, by unfold wOf; simp [a]⟩, b⟩
          by_cases hxq : x.parent = p
          · rw [hxq] at hin; exact hn0 hin
          · have h2 : sd0 ∈ w'.q h x.parent := by rw [hq, updQ_ne _ _ hxq]; exact hin
            rw [G'.q.m] at h2 l0
            obtain ⟨i, e, i1, i3, i4, _, c1, _⟩ := h2
            obtain ⟨j, f, j1, j3, j4, _, c2, _⟩ := l0
            have a1 := (G'.r.at_of i1 i3).1
            have a2 := (G'.r.at_of j1 j3).1
            rw [i4] at a1
            rw [j4, a1] at a2
            cases a2
            exact hxq (c1.symm.trans c2)
        have hA0 : sd0 ∈ A h := by
          rw [hA, List.mem_filter]
          exact ⟨hlist, rdyP_iff.2 ⟨hkind, by rw [g3]; exact hp, g2, hw0⟩⟩
        have hAn : (A h).Nodup := by rw [hA]; exact (nd h h3).filter _
        rw [hqp, filter_single hAn hA0 (fun y hy => ?_)]
        · congr 1
          rw [List.filter_eq_self]
          intro a ha
          simp [ha]
        · rw [decide_eq_true_eq]
          constructor
          · intro hpp
            obtain ⟨a, b⟩ := inA y hy hpp
            rw [hqp, List.mem_append, List.mem_singleton] at a
            exact a.resolve_left (b p hp)
          · rintro rfl; exact g3
      · have hqp : w'.q h p = w.q h p := by rw [hq, updQ_ne _ _ hpx]
        rw [hqp, filter_none (l := A h) (fun sd hsd => ?_), List.append_nil]
        · rw [List.filter_eq_self]
          intro a ha
          simp [ha]
        · rw [decide_eq_false_iff_not]
          intro hpp
          obtain ⟨a, b⟩ := inA sd hsd hpp
          rw [hqp] at a
          exact b p hp a
end Go.Proofs.Qxb6500351aGreat
