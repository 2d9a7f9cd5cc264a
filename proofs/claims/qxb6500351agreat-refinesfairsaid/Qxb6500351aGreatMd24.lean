/- A look at the hosts, for the walk: plain lemmas. -/
import Derived.Test.Qxb6500351aGreatMd23
import Derived.Test.Qxb6500351aGreatRp7
set_option linter.unusedVariables false
set_option linter.unusedSimpArgs false
namespace Go.Proofs.Qxb6500351aGreat
open Go.Eng
def NOk (l : List Ned) : Prop := NPk l ∧ ∀ y ∈ l, (0 ≤ y.rHost ∧ y.rHost < 256) ∧ y.rcvd.length ≤ 1000000000000
theorem nSee_fin {l : List Ned} {dl : Nat → Int} {h : Nat} {en : En} {ci : Ci} {l9 : List Ned} (hK : NPk l) (hs : nSee l dl (h : Int) en ci = some l9) (hf : ¬ nFind l (h : Int) en.sd < 0) :
    ∃ k, ∃ hk : k < l.length, ∃ y : Ned, l9 = l.set k y ∧ y.rHost = (l[k]).rHost ∧ y.rcvd = (l[k]).rcvd := by
  obtain ⟨k, pe, l1, l2, l3, l4, l5, B⟩ := nSee_B hK hs hf
  have hk := B.hk
  refine ⟨k, hk, ?_⟩
  have r1 : ∃ y : Ned, l1 = l.set k y ∧ y.rHost = (l[k]).rHost ∧ y.rcvd = (l[k]).rcvd := ⟨_, B.e1.symm, rfl, rfl⟩
  have nxt : ∀ {a b : List Ned} (f : Ned → Ned), (∀ z, (f z).rHost = z.rHost ∧ (f z).rcvd = z.rcvd) → (∃ y : Ned, a = l.set k y ∧ y.rHost = (l[k]).rHost ∧ y.rcvd = (l[k]).rcvd) → (∀ q : k < a.length, a.set k (f (a[k])) = b) → ∃ y : Ned, b = l.set k y ∧ y.rHost = (l[k]).rHost ∧ y.rcvd = (l[k]).rcvd := by
    rintro a b f hf ⟨y, rfl, y1, y2⟩ e
    have := e (by rw [List.length_set]; exact hk)
    rw [set_get, set_set] at this
    exact ⟨f y, this.symm, by rw [(hf y).1, y1], by rw [(hf y).2, y2]⟩
  have r2 := nxt (fun z => { z with state := ci.state }) (fun z => ⟨rfl, rfl⟩) r1 B.e2
  have r3 := nxt (fun z => { z with why := ci.why }) (fun z => ⟨rfl, rfl⟩) r2 B.e3
  have r4 : ∃ y : Ned, l4 = l.set k y ∧ y.rHost = (l[k]).rHost ∧ y.rcvd = (l[k]).rcvd := by
    by_cases s : ci.state = 3
    · exact nxt (fun z => { z with wasOpen := true }) (fun z => ⟨rfl, rfl⟩) r3 (B.wo s)
    · rw [← B.nwo s]; exact r3
  have q4 : k < l4.length := by rw [B.n4]; exact hk
  have r5 : ∃ y : Ned, l5 = l.set k y ∧ y.rHost = (l[k]).rHost ∧ y.rcvd = (l[k]).rcvd := by
    by_cases s : (l4[k]).offered < (l4[k]).rcvd.length + ci.avail
    · exact nxt (fun z => { z with offered := z.rcvd.length + ci.avail }) (fun z => ⟨rfl, rfl⟩) r4 (fun q => B.off q s)
    · rw [← B.noff q4 s]; exact r4
  have q5 : k < l5.length := by rw [B.n5]; exact hk
  by_cases s : ci.peerFin = true ∧ (l5[k]).peerFin = false
  · exact nxt (fun z => { z with peerFin := true }) (fun z => ⟨rfl, rfl⟩) r5 (fun q => (B.fin q s.1 s.2).2)
  · rw [← B.nfin q5 s]; exact r5
theorem nSee_NOk {l : List Ned} {dl : Nat → Int} {h : Nat} {en : En} {ci : Ci} {l9 : List Ned} (hK : NOk l) (hen : en.Ok) (hs : nSee l dl (h : Int) en ci = some l9) : NOk l9 ∧ l9.length ≤ l.length + 1 := by
  refine ⟨⟨nSee_NPk hK.1 hs, ?_⟩, ?_⟩
  · by_cases hf : nFind l (h : Int) en.sd < 0
    · obtain ⟨_, _, _, _, _, a6, a7⟩ := nSee_A hs hf
      subst a7
      intro y hy
      rcases List.mem_append.1 hy with q | q
      · exact hK.2 y q
      · rw [List.mem_singleton] at q
        subst q
        exact ⟨hen.rh, by show ([] : List Int).length ≤ _; simp⟩
    · obtain ⟨k, hk, y, rfl, y1, y2⟩ := nSee_fin hK.1 hs hf
      intro z hz
      rcases List.mem_or_eq_of_mem_set hz with q | q
      · exact hK.2 z q
      · subst q; rw [y1, y2]; exact hK.2 _ (List.getElem_mem hk)
  · by_cases hf : nFind l (h : Int) en.sd < 0
    · obtain ⟨_, _, _, _, _, a6, a7⟩ := nSee_A hs hf
      subst a7; rw [List.length_append, List.length_singleton]; omega
    · obtain ⟨k, hk, y, rfl, _⟩ := nSee_fin hK.1 hs hf
      rw [List.length_set]; omega
theorem NOk.upd {l : List Ned} (h : NOk l) (i : Int) {f : Ned → Ned} (hf : ∀ y ∈ l, (f y).peer = y.peer ∧ (f y).client = y.client ∧ (f y).rHost = y.rHost ∧ (f y).rcvd.length ≤ 1000000000000) : NOk (nUpd l i f) ∧ (nUpd l i f).length = l.length := by
  unfold nUpd
  split
  · exact ⟨h, rfl⟩
  · rename_i x hx
    split
    · have hm : x ∈ l := List.mem_of_getElem? hx
      obtain ⟨f1, f2, f3, f4⟩ := hf x hm
      refine ⟨⟨fun z hz => ?_, fun z hz => ?_⟩, by rw [List.length_set]⟩
      · rw [List.length_set]
        rcases List.mem_or_eq_of_mem_set hz with q | q
        · exact h.1 z q
        · subst q; rw [f1, f2]; exact h.1 x hm
      · rcases List.mem_or_eq_of_mem_set hz with q | q
        · exact h.2 z q
        · subst q; rw [f3]; exact ⟨(h.2 x hm).1, f4⟩
    · exact ⟨h, rfl⟩
theorem NOk.unl {l : List Ned} (h : NOk l) (i : Int) : NOk (nUnlisted l i) ∧ (nUnlisted l i).length = l.length := by
  unfold nUnlisted
  split
  · exact h.upd i (fun y hy => ⟨rfl, rfl, rfl, (h.2 y hy).2⟩)
  · exact ⟨h, rfl⟩
theorem NOk.goneTo {l : List Ned} (h : NOk l) (c : Int) (list : List Int) : ∀ k, NOk (goneTo c list l k) ∧ (goneTo c list l k).length = l.length
  | 0 => ⟨h, rfl⟩
  | k + 1 => by
    obtain ⟨a, b⟩ := NOk.goneTo h c list k
    show NOk (goneStep c list (Go.Proofs.Qxb6500351aGreat.goneTo c list l k) k) ∧ (goneStep c list (Go.Proofs.Qxb6500351aGreat.goneTo c list l k) k).length = _
    unfold goneStep
    split
    · split
      · obtain ⟨a2, b2⟩ := a.unl (k : Int); exact ⟨a2, by rw [b2, b]⟩
      · exact ⟨a, b⟩
    · exact ⟨a, b⟩
/-! ### step by step -/
theorem rows_yes {dl : Nat → Int} {H : Hst} {c : Int} {list : List Int} {i : Nat} {l l1 : List Ned} (h : lookRows dl H c (list.drop i) l = some l1) (hi : i < list.length) (hk : (H.ent (list.getD i 0)).kind = 2) : ∃ l2, nSee l dl c (H.ent (list.getD i 0)) (H.infoC (list.getD i 0)) = some l2 ∧ lookRows dl H c (list.drop (i + 1)) l2 = some l1 := by
  rw [drop_cons hi] at h
  unfold lookRows at h
  rw [if_pos hk] at h
  split at h
  · rename_i l2 e; exact ⟨l2, e, h⟩
  · cases h
theorem rows_no {dl : Nat → Int} {H : Hst} {c : Int} {list : List Int} {i : Nat} {l l1 : List Ned} (h : lookRows dl H c (list.drop i) l = some l1) (hi : i < list.length) (hk : ¬ (H.ent (list.getD i 0)).kind = 2) : lookRows dl H c (list.drop (i + 1)) l = some l1 := by
  rw [drop_cons hi] at h
  unfold lookRows at h
  rwa [if_neg hk] at h
theorem rows_end {dl : Nat → Int} {H : Hst} {c : Int} {list : List Int} {l l1 : List Ned} (h : lookRows dl H c (list.drop list.length) l = some l1) : l = l1 := by
  rw [List.drop_length] at h
  unfold lookRows at h
  injection h
theorem top_in {seen list : List Int} {i : Nat} {t t' : Int} (h : topTo seen (list.drop i) t = some t') (hi : i < list.length) (hs : list.getD i 0 ∈ seen) : topTo seen (list.drop (i + 1)) t = some t' := by
  rw [drop_cons hi] at h
  unfold topTo topStep at h
  rw [if_pos hs] at h
  exact h
theorem top_out {seen list : List Int} {i : Nat} {t t' : Int} (h : topTo seen (list.drop i) t = some t') (hi : i < list.length) (hs : ¬ list.getD i 0 ∈ seen) : ¬ list.getD i 0 ≤ t ∧ topTo seen (list.drop (i + 1)) (list.getD i 0) = some t' := by
  rw [drop_cons hi] at h
  unfold topTo topStep at h
  rw [if_neg hs] at h
  split at h
  · rename_i y e
    split at e
    · cases e
    · rename_i k; injection e with e; subst e; exact ⟨k, h⟩
  · cases h
theorem top_end {seen list : List Int} {t t' : Int} (h : topTo seen (list.drop list.length) t = some t') : t = t' := by
  rw [List.drop_length] at h
  unfold topTo at h
  injection h
theorem rdy_step {c : Int} {H : Hst} {list : List Int} {i : Nat} {r R : List Wt} (h : rdyTo c H (list.drop i) r = R) (hi : i < list.length) : rdyTo c H (list.drop (i + 1)) (rdyStep c H r (list.getD i 0)) = R := by
  rw [drop_cons hi] at h; exact h
theorem rdy_end {c : Int} {H : Hst} {list : List Int} {r R : List Wt} (h : rdyTo c H (list.drop list.length) r = R) : r = R := by
  rw [List.drop_length] at h; exact h
theorem rdyStep_len (c : Int) (H : Hst) (r : List Wt) (sd : Int) : (rdyStep c H r sd).length ≤ r.length + 1 := by
  unfold rdyStep; split
  · rw [List.length_append, List.length_singleton]; omega
  · omega
theorem info_avail {H : Hst} (ok : H.Ok) (sd : Int) : 0 ≤ (H.infoC sd).avail ∧ (H.infoC sd).avail ≤ 1000 := by
  unfold Hst.infoC
  split
  · have := (ok.c (H.ent sd).slot.toNat).r.av0
    have := (ok.c (H.ent sd).slot.toNat).r.av1
    show 0 ≤ (H.c (H.ent sd).slot.toNat).r.avail ∧ (H.c (H.ent sd).slot.toNat).r.avail ≤ 1000
    omega
  · exact ⟨by decide, by decide⟩
theorem ent_Ok {H : Hst} (ok : H.Ok) (sd : Int) : (H.ent sd).Ok := Tb.get_ok ok.t sd
theorem rdyStep_yes {c : Int} {H : Hst} {r : List Wt} {sd : Int} (h1 : (H.ent sd).kind = 2) (h2 : ¬ (H.ent sd).parent = 0) (h3 : (H.ent sd).ready = true) (h4 : waitsI r c sd < 0) : rdyStep c H r sd = r ++ [⟨c, sd, (H.ent sd).parent⟩] := if_pos ⟨h1, h2, h3, h4⟩
theorem rdyStep_n1 {c : Int} {H : Hst} {r : List Wt} {sd : Int} (h : ¬ (H.ent sd).kind = 2) : rdyStep c H r sd = r := if_neg fun z => h z.1
theorem rdyStep_n2 {c : Int} {H : Hst} {r : List Wt} {sd : Int} (h : (H.ent sd).parent = 0) : rdyStep c H r sd = r := if_neg fun z => z.2.1 h
theorem rdyStep_n3 {c : Int} {H : Hst} {r : List Wt} {sd : Int} (h : (H.ent sd).ready = false) : rdyStep c H r sd = r := if_neg fun z => Bool.noConfusion (h.symm.trans z.2.2.1)
theorem rdyStep_n4 {c : Int} {H : Hst} {r : List Wt} {sd : Int} (h : 0 ≤ waitsI r c sd) : rdyStep c H r sd = r := if_neg fun z => by omega
theorem wd_top (A : WA) (q : Bool) (x : Wrld) (V : WV) (k : Nat) (a b : Int) : ({ A.wd q { x with top := upA x.top k a } V with top := upA (upA x.top k a) k b } : Wd) = A.wd q { x with top := upA x.top k b } V := by
  rw [upA_upA]
theorem sorted_at {l : List Int} (h : l.Pairwise (· < ·)) {i : Nat} (hi : i + 1 < l.length) : l.getD i 0 < l.getD (i + 1) 0 := by
  have := List.pairwise_iff_getElem.1 h i (i + 1) (by omega) hi (by omega)
  rw [getD_at (by omega), getD_at hi]; exact this
theorem gone_at {c : Int} {list : List Int} {l : List Ned} {k : Nat} (hk : k < (goneTo c list l k).length) : goneTo c list l (k + 1) = if goneP c list ((goneTo c list l k)[k]) = true then nUnlisted (goneTo c list l k) k else goneTo c list l k := by
  show goneStep c list (goneTo c list l k) k = _
  unfold goneStep
  rw [List.getElem?_eq_getElem hk]
/-- the facts that a look at host c stands on -/
structure LookF (y : Wrld) (c : Nat) (z : Wrld) (l1 l2 : List Ned) (t' : Int) : Prop where
  chk : (y.H c).ChkOk
  clk : (y.H c).clock = y.ticks
  lost : y.lost c ≤ (y.H c).lost ∧ (y.lost c < (y.H c).lost → y.out c = 24)
  srt : (y.H c).t.list.Pairwise (· < ·) ∧ ∀ sd, sd ∈ (y.H c).t.list → 1 ≤ sd
  ent : ∀ sd, sd ∈ (y.H c).t.list → (y.H c).err sd = 0 ∧ ((y.H c).ent sd).sd = sd ∧ (((y.H c).ent sd).kind = 1 ∨ (((y.H c).ent sd).kind = 2 ∧ 0 ≤ ((y.H c).ent sd).slot ∧ ((y.H c).ent sd).slot < 4))
  top : topTo (y.seen c) (y.H c).t.list (y.top c) = some t'
  N : LookN y.dl (y.H c) c y.N l1 l2
  z : z = { y with lost := upA y.lost c (y.H c).lost, top := upA y.top c t', seen := upA y.seen c (y.H c).t.list, N := l2, ready := rdyTo c (y.H c) (y.H c).t.list y.ready }
theorem LookC.f {y z : Wrld} {c : Nat} (h : LookC y c z) : ∃ l1 l2 t', LookF y c z l1 l2 t' := by
  obtain ⟨l1, l2, t', a, b, e⟩ := h.res
  exact ⟨l1, l2, t', ⟨h.chk, h.clk, h.lost, h.srt, h.ent, a, b, e⟩⟩
end Go.Proofs.Qxb6500351aGreat
