/- What the walks of the law's own functions ask: plain lemmas. -/
import Derived.Test.Qxb6500351aGreatMd22
import Derived.Test.Qxb6500351aGreatEngU
set_option linter.unusedVariables false
set_option linter.unusedSimpArgs false
namespace Go.Proofs.Qxb6500351aGreat
open Go.Eng
theorem take_snocL' {α : Type} {l : List α} {k : Nat} (h : k < l.length) : l.take (k + 1) = l.take k ++ [l[k]] := by
  rw [List.take_add_one, List.getElem?_eq_getElem h]; rfl
/-! ### the accept order -/
theorem waitsI_at {l : List Wt} {k : Nat} {a b : Int} (h : ∀ y ∈ l.take k, ¬ (y.host = a ∧ y.sd = b)) (hk : k < l.length) (e : l[k].host = a ∧ l[k].sd = b) : waitsI l a b = k := by
  have : l.findIdx? (wAt a b) = some k := by
    rw [List.findIdx?_eq_some_iff_getElem]
    refine ⟨hk, by unfold wAt; simp [e], fun j hj => ?_⟩
    have := h l[j] (List.mem_take_iff_getElem.2 ⟨j, by omega, rfl⟩)
    unfold wAt; simpa using this
  unfold waitsI; rw [this]
theorem waitsI_none {l : List Wt} {a b : Int} (h : ∀ y ∈ l, ¬ (y.host = a ∧ y.sd = b)) : waitsI l a b = -1 := by
  have : l.findIdx? (wAt a b) = none := by
    rw [List.findIdx?_eq_none_iff]
    intro x hx
    have := h x hx
    unfold wAt; simpa using this
  unfold waitsI; rw [this]
section
variable {b cap : Nat} {cur : Array Value} {l : List Wt} {gd : List Chunk}
theorem Wt.l_host (h : LOpen 76 3 wtR b cap cur l gd) (k : Nat) (hk : k < l.length) {o : Nat} (ho : o = 0 + k * 3 + 0) : cur[o]? = some (.int .i64 (l[k]).host) :=
  LOpen.field h k hk (by omega) (fun x g ⟨hx, _⟩ => by subst hx; rfl) o ho
theorem Wt.l_sd (h : LOpen 76 3 wtR b cap cur l gd) (k : Nat) (hk : k < l.length) {o : Nat} (ho : o = 0 + k * 3 + 1) : cur[o]? = some (.int .i64 (l[k]).sd) :=
  LOpen.field h k hk (by omega) (fun x g ⟨hx, _⟩ => by subst hx; rfl) o ho
theorem Wt.l_parent (h : LOpen 76 3 wtR b cap cur l gd) (k : Nat) (hk : k < l.length) {o : Nat} (ho : o = 0 + k * 3 + 2) : cur[o]? = some (.int .i64 (l[k]).parent) :=
  LOpen.field h k hk (by omega) (fun x g ⟨hx, _⟩ => by subst hx; rfl) o ho
end
theorem Wt.E {b cap : Nat} {cur : Array Value} {l : List Wt} {gd : List Chunk} (h : LOpen 76 3 wtR b cap cur l gd) (k : Nat) (hk : k < l.length) {o : Nat} (ho : o = 0 + k * 3) : cur.extract o (o + 3) = (l[k]).enc ∧ o + 3 ≤ cur.size := by
  have hs := LOpen.bound h k hk (f := 2) (by omega) (o := o + 2) (by omega)
  refine ⟨?_, by omega⟩
  apply Array.ext_getElem?
  intro i
  rw [Array.getElem?_extract]
  have hsz : (l[k]).enc.size = 3 := rfl
  split
  · rename_i hi
    have hi3 : i < 3 := by omega
    have hc : i = 0 ∨ i = 1 ∨ i = 2 := by omega
    rcases hc with rfl | rfl | rfl
    · rw [Wt.l_host h k hk (by omega)]; rfl
    · rw [Wt.l_sd h k hk (by omega)]; rfl
    · rw [Wt.l_parent h k hk (by omega)]; rfl
  · rename_i hi
    rw [Array.getElem?_eq_none (by rw [hsz]; omega)]
theorem keep_step {H : Nat → Hst} {l : List Wt} {k : Nat} (hk : k < l.length) : (l.take (k + 1)).filter (keepW H) = (l.take k).filter (keepW H) ++ if keepW H l[k] = true then [l[k]] else [] := by
  rw [take_snocL' hk, List.filter_append]
  congr 1
  simp [List.filter_cons]
/-! ### counting -/
theorem cnt_step {p : Int → Bool} {l : List Int} {k : Nat} (hk : k < l.length) : (l.take (k + 1)).countP p = (l.take k).countP p + if p (l.getD k 0) = true then 1 else 0 := by
  rw [take_snoc l k hk, List.countP_append, List.countP_singleton]
theorem any_at {p : Int → Bool} {l : List Int} {k : Nat} (hk : k < l.length) (h : p (l.getD k 0) = true) : l.any p = true := by
  rw [List.any_eq_true]; exact ⟨_, getD_mem hk, h⟩
theorem any_no {p : Int → Bool} {l : List Int} (h : ∀ y ∈ l, ¬ p y = true) : l.any p = false := by
  rw [List.any_eq_false]; exact h
theorem InfG.ok {e : Int} {ci : Ci} {v : Value} {g : List Chunk} (h : InfG e ci v g) (he : e = 0) : ∃ b, v = .pointer (some ⟨b, 0, none⟩) ∧ g = [(b, .cells ci.enc 95 (0, 0))] := by
  rcases h with ⟨k, _⟩ | ⟨_, k⟩
  · exact absurd he k
  · exact k
theorem Inl.mk {b : Nat} {l : List Int} (h : l.length ≤ 1073741824) : Inl (inV b l) l (inG b l 3) := ⟨h, .inr ⟨b, rfl, rfl⟩⟩
/-! ### stamps -/
theorem stp_len (j n : Nat) : (stp j n).length = n := by simp [stp]
theorem stp_take {j n k : Nat} (hk : k < n) : (stp j n).take (k + 1) = (stp j n).take k ++ [mark j k] := by
  have : (stp j n)[k]? = some (mark j k) := by simp [stp, hk]
  rw [List.take_add_one, this]; rfl
theorem set_take {l : List Int} {k : Nat} {x : Int} (hk : k < l.length) : (l.set k x).take (k + 1) = l.take k ++ [x] := by
  rw [List.take_add_one, List.take_set_of_le (by omega), List.getElem?_set_self hk]; rfl
theorem stp_step {j n k : Nat} {l : List Int} (hl : l.length = n) (hk : k < n) (h : l.take k = (stp j n).take k) : (l.set k (mark j k)).take (k + 1) = (stp j n).take (k + 1) := by
  rw [stp_take hk, set_take (by omega), h]
theorem stp_bytes (j n : Nat) : Bytes (stp j n) := by
  intro x hx
  simp only [stp, List.mem_map, List.mem_range] at hx
  obtain ⟨i, _, rfl⟩ := hx
  have := mark_rng j i; omega
theorem bytes_set {l : List Int} {k : Nat} {x : Int} (h : Bytes l) (hx : 0 ≤ x ∧ x < 256) : Bytes (l.set k x) := by
  intro y hy
  rcases List.mem_or_eq_of_mem_set hy with q | q
  · exact h y q
  · omega
theorem rep_step {n k : Nat} {x : Int} {l : List Int} (hl : l.length = n) (hk : k < n) (h : l.take k = (List.replicate n x).take k) : (l.set k x).take (k + 1) = (List.replicate n x).take (k + 1) := by
  rw [set_take (by omega), h, List.take_replicate, List.take_replicate, Nat.min_eq_left (by omega), Nat.min_eq_left (by omega), List.replicate_succ']
theorem stp_all {n : Nat} {l m : List Int} (hl : l.length = n) (hm : m.length = n) (h : l.take n = m.take n) : l = m := by
  rwa [List.take_of_length_le (by omega), List.take_of_length_le (by omega)] at h
theorem rowR.mk2 {b : Nat} {l m : List Int} (h : m.length = l.length) (hb : Bytes m) (hl : m.length ≤ 1000) : rowR [byV b l] m (byG b m 5) :=
  ⟨b, by unfold byV; rw [h], rfl, hb, hl⟩
theorem inlR.mk2 {b : Nat} {l m : List Int} (h : m.length = l.length) (hl : m.length ≤ 1073741824) : inlR [inV b l] m (inG b m 3) :=
  ⟨b, by unfold inV; rw [h], rfl, hl⟩
/-! ### rows of a list, one after the other -/
theorem rows_step {cur : Array Value} {n k : Nat} {fr : List (List Int)} {gd : List Chunk} (h : Elems 1 rowR ((cur.toList.take n).drop k) (fr.drop k) gd) (hk : k < fr.length) (hn : fr.length ≤ n) :
    ∃ b gr, gd = byG b fr[k] 5 ++ gr ∧ (∀ o, o = 0 + k * 1 → cur[o]? = some (byV b fr[k])) ∧ Bytes fr[k] ∧ fr[k].length ≤ 1000 ∧ Elems 1 rowR ((cur.toList.take n).drop (k + 1)) (fr.drop (k + 1)) gr := by
  rw [List.drop_eq_getElem_cons hk] at h
  obtain ⟨x, xs', g1, g2, h1, h2, ⟨b, h3, h4, h5, h6⟩, h7, h8⟩ := h
  subst h3 h4
  have e0 : ((cur.toList.take n).drop k)[0]? = some (byV b fr[k]) := by rw [h1]; rfl
  have e1 : (cur.toList.take n).drop (k + 1) = xs' := by
    have : (cur.toList.take n).drop (k + 1) = ((cur.toList.take n).drop k).drop 1 := by rw [List.drop_drop]
    rw [this, h1]; rfl
  refine ⟨b, g2, h8, fun o ho => ?_, h5, h6, by rw [e1]; exact h7⟩
  rw [List.getElem?_drop, List.getElem?_take] at e0
  have : o = k + 0 := by omega
  subst this
  split at e0
  · simpa using e0
  · cases e0
/-! ### calls on a row that lies in a list -/
theorem row_perm {gd ga r gb : List Chunk} (h : gd = ga ++ r ++ gb) : gd.Perm (r ++ (ga ++ gb)) := by
  subst h; rw [List.append_assoc]; exact perm_mid _ _ _
theorem s123 {gd ga gb : List Chunk} {b : Nat} {l : List Int} (h : gd = ga ++ byG b l 5 ++ gb) (hb : Bytes l) (hl : l.length ≤ 1000) : Trip Tryz.prog 123 #[byV b l] [gd] (fun u S' => u = .bool (firstFrag l) ∧ S' = [gd]) := by
  refine (t123 b 0 l.length l.length 5 (bV l).toArray l (BytAt.full hb (by omega))).over (F := ga ++ gb) (by simpa using row_perm h) ?_
  rintro u A' ⟨h1, rfl⟩
  exact ⟨_, ⟨h1, rfl⟩, by simpa using (row_perm h).symm⟩
theorem s124 {gd ga gb g : List Chunk} {b b2 : Nat} {l : List Int} {w : List Flt} (hw : WrG b w g) (h64 : w.length ≤ 64) (h : gd = ga ++ byG b2 l 5 ++ gb) (hb : Bytes l) (hl : l.length ≤ 1000) : Trip Tryz.prog 124 #[.pointer (some ⟨b, 0, none⟩), byV b2 l] [g, gd] (fun u S' => ∃ g', u = .bool (decide (w.length < 64)) ∧ WrG b (wPut w l) g' ∧ S' = [g', gd]) := by
  refine (i124 hw h64 b2 l hb hl).over (F := ga ++ gb) ?_ ?_
  · have := row_perm h
    simp only [List.flatten_cons, List.flatten_nil, List.append_nil, List.append_assoc]
    exact List.Perm.append_left _ this
  · rintro u A' ⟨g', h1, h2, rfl⟩
    refine ⟨_, ⟨g', h1, h2, rfl⟩, ?_⟩
    have := row_perm h
    simp only [List.flatten_cons, List.flatten_nil, List.append_nil, List.append_assoc]
    exact List.Perm.append_left _ this.symm
theorem s52 {gd ga gb gd2 ga2 gb2 : List Chunk} {b b2 : Nat} {l m : List Int} (h : gd = ga ++ byG b l 5 ++ gb) (hb : Bytes l) (hl : l.length ≤ 1000) (h2 : gd2 = ga2 ++ byG b2 m 5 ++ gb2) (hb2 : Bytes m) (hl2 : m.length ≤ 1000) : Trip Tryz.prog 52 #[byV b l, byV b2 m] [gd, gd2] (fun u S' => u = .bool (decide (l = m)) ∧ S' = [gd, gd2]) := by
  have p : ([gd, gd2] : SH).flatten.Perm (([byG b l 5, byG b2 m 5] : SH).flatten ++ ((ga ++ gb) ++ (ga2 ++ gb2))) := by
    have p1 := (row_perm h).append (row_perm h2)
    simp only [List.flatten_cons, List.flatten_nil, List.append_nil, List.append_assoc] at p1 ⊢
    refine p1.trans (List.Perm.append_left _ ?_)
    have := perm_mid (ga ++ gb) (byG b2 m 5) (ga2 ++ gb2)
    simpa only [List.append_assoc] using this
  refine (t52 (byV b l) (byV b2 m) (byG b l 5) (byG b2 m 5) l m (.inr ⟨b, 0, l.length, l.length, _, 5, rfl, rfl, BytAt.full hb (by omega)⟩) (.inr ⟨b2, 0, m.length, m.length, _, 5, rfl, rfl, BytAt.full hb2 (by omega)⟩)).over p ?_
  rintro u A' ⟨h1, rfl⟩
  exact ⟨_, ⟨h1, rfl⟩, p.symm⟩
theorem take_eq_step {α : Type} {l m : List α} {k : Nat} (h : l.take k = m.take k) (hl : k < l.length) (hm : k < m.length) (e : l[k] = m[k]) : l.take (k + 1) = m.take (k + 1) := by
  rw [List.take_add_one, List.take_add_one, h, List.getElem?_eq_getElem hl, List.getElem?_eq_getElem hm, e]
theorem fill_step {cur : Array Value} {n k : Nat} {v : Value} (hn : cur.size = n) (hk : k < n) (h : cur.toList.take k = List.replicate k v) : (cur.setIfInBounds (0 + k * 1) v).size = n ∧ (cur.setIfInBounds (0 + k * 1) v).toList.take (k + 1) = List.replicate (k + 1) v := by
  have hl : k < cur.toList.length := by rw [Array.length_toList]; omega
  refine ⟨by rw [Array.size_setIfInBounds]; exact hn, ?_⟩
  have e : 0 + k * 1 = k := by omega
  rw [e, Array.toList_setIfInBounds, List.take_add_one, List.take_set_of_le (by omega), List.getElem?_set_self hl, h, List.replicate_succ']; rfl
theorem fill_all {cur : Array Value} {n : Nat} {v : Value} (hn : cur.size = n) (h : cur.toList.take n = List.replicate n v) : cur = (List.replicate n v).toArray := by
  have : cur.toList = List.replicate n v := by rw [← h, List.take_of_length_le (by rw [Array.length_toList]; omega)]
  rw [← this]
/-! ### frames put on the wire -/
def Wrld.putI (x : Wrld) (c : Nat) (fr : List (List Int)) : Wrld := { x with wr := wPuts x.wr fr, spilt := x.spilt + wSpill x.wr fr, out := upA x.out c (x.out c + (fr.countP firstFrag : Nat)) }
theorem Wrld.putI_nil (x : Wrld) (c : Nat) : x.putI c [] = x := by
  unfold Wrld.putI
  have : upA x.out c (x.out c + (([] : List (List Int)).countP firstFrag : Nat)) = x.out := by
    rw [show x.out c + (([] : List (List Int)).countP firstFrag : Nat) = x.out c by simp, upA_self]
  rw [this]; simp [wPuts, wSpill]
theorem take_snocL {α : Type} {l : List α} {k : Nat} (h : k < l.length) : l.take (k + 1) = l.take k ++ [l[k]] := by
  rw [List.take_add_one, List.getElem?_eq_getElem h]; rfl
section
variable (A : WA) (q : Bool) (x : Wrld) (V : WV) {c k : Nat} {fr : List (List Int)}
theorem cntF_step (hk : k < fr.length) : (fr.take (k + 1)).countP firstFrag = (fr.take k).countP firstFrag + if firstFrag fr[k] = true then 1 else 0 := by
  rw [take_snocL hk, List.countP_append, List.countP_singleton]
theorem putI_wr (hk : k < fr.length) : (x.putI c (fr.take (k + 1))).wr = wPut (x.putI c (fr.take k)).wr fr[k] := by
  show wPuts x.wr (fr.take (k + 1)) = _
  rw [take_snocL hk, wPuts_snoc]; rfl
theorem putI_sp (hk : k < fr.length) : (x.putI c (fr.take (k + 1))).spilt = (x.putI c (fr.take k)).spilt + if 64 ≤ (x.putI c (fr.take k)).wr.length then 1 else 0 := by
  show x.spilt + wSpill x.wr (fr.take (k + 1)) = x.spilt + wSpill x.wr (fr.take k) + _
  rw [take_snocL hk, wSpill_snoc]
  show _ = x.spilt + wSpill x.wr (fr.take k) + if 64 ≤ (wPuts x.wr (fr.take k)).length then 1 else 0
  omega
theorem putI_out (hk : k < fr.length) : (x.putI c (fr.take (k + 1))).out = if firstFrag fr[k] = true then upA (x.putI c (fr.take k)).out c ((x.putI c (fr.take k)).out c + 1) else (x.putI c (fr.take k)).out := by
  show upA x.out c (x.out c + ((fr.take (k + 1)).countP firstFrag : Nat)) = _
  rw [cntF_step hk]
  split
  · show _ = upA (upA x.out c (x.out c + ((fr.take k).countP firstFrag : Nat))) c (upA x.out c (x.out c + ((fr.take k).countP firstFrag : Nat)) c + 1)
    rw [upA_upA, upA_at]
    congr 1
    omega
  · rfl
/-- the world's block behind one more frame: four ways -/
theorem putW_yn (hk : k < fr.length) (h1 : firstFrag fr[k] = true) (h2 : (x.putI c (fr.take k)).wr.length < 64) : ({ A.wd q (x.putI c (fr.take k)) V with out := upA (x.putI c (fr.take k)).out c ((x.putI c (fr.take k)).out c + 1) } : Wd) = A.wd q (x.putI c (fr.take (k + 1))) V := by
  have e1 := putI_out x (c := c) hk
  have e2 := putI_sp x (c := c) hk
  rw [if_pos h1] at e1
  rw [if_neg (by omega)] at e2
  unfold WA.wd
  rw [e1, e2]
  simp [Wrld.putI]
theorem putW_yy (hk : k < fr.length) (h1 : firstFrag fr[k] = true) (h2 : ¬ (x.putI c (fr.take k)).wr.length < 64) : ({ A.wd q (x.putI c (fr.take k)) V with out := upA (x.putI c (fr.take k)).out c ((x.putI c (fr.take k)).out c + 1), spilt := (x.putI c (fr.take k)).spilt + 1 } : Wd) = A.wd q (x.putI c (fr.take (k + 1))) V := by
  have e1 := putI_out x (c := c) hk
  have e2 := putI_sp x (c := c) hk
  rw [if_pos h1] at e1
  rw [if_pos (by omega)] at e2
  unfold WA.wd
  rw [e1, e2]
  simp [Wrld.putI]
theorem putW_nn (hk : k < fr.length) (h1 : firstFrag fr[k] = false) (h2 : (x.putI c (fr.take k)).wr.length < 64) : (A.wd q (x.putI c (fr.take k)) V : Wd) = A.wd q (x.putI c (fr.take (k + 1))) V := by
  have e1 := putI_out x (c := c) hk
  have e2 := putI_sp x (c := c) hk
  rw [if_neg (by rw [h1]; decide)] at e1
  rw [if_neg (by omega)] at e2
  unfold WA.wd
  rw [e1, e2]
  simp [Wrld.putI]
theorem putW_ny (hk : k < fr.length) (h1 : firstFrag fr[k] = false) (h2 : ¬ (x.putI c (fr.take k)).wr.length < 64) : ({ A.wd q (x.putI c (fr.take k)) V with spilt := (x.putI c (fr.take k)).spilt + 1 } : Wd) = A.wd q (x.putI c (fr.take (k + 1))) V := by
  have e1 := putI_out x (c := c) hk
  have e2 := putI_sp x (c := c) hk
  rw [if_neg (by rw [h1]; decide)] at e1
  rw [if_pos (by omega)] at e2
  unfold WA.wd
  rw [e1, e2]
  simp [Wrld.putI]
theorem putW_f1 (h : 12 < fr.countP firstFrag) : ({ A.wd q (x.putI c fr) V with flood := true } : Wd) = A.wd q (x.put c fr) V := by
  unfold Wrld.put Wrld.putI WA.wd
  rw [decide_eq_true h, Bool.or_true]
theorem putW_f0 (h : ¬ 12 < fr.countP firstFrag) : (A.wd q (x.putI c fr) V : Wd) = A.wd q (x.put c fr) V := by
  unfold Wrld.put Wrld.putI WA.wd
  rw [decide_eq_false h, Bool.or_false]
end
/-- a list maybe nil, read at a place -/
theorem LstN.slc {α : Type} {e sz : Nat} {R : List Value → α → List Chunk → Prop} {v : Value} {l : List α} {gv gd : List Chunk} (h : LstN e sz R v l gv gd) : ∃ p cap, v = .slice p l.length cap := h.slice
end Go.Proofs.Qxb6500351aGreat
