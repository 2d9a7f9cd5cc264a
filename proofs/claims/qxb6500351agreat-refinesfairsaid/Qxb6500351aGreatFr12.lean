/- FAIR WEATHER, part 12: frames and ticks on the law's own wire. No Go in sight. -/
import Derived.Test.Qxb6500351aGreatFr11
set_option linter.unusedVariables false
set_option linter.unusedSimpArgs false
namespace Go.Proofs.Qxb6500351aGreat
open Go.Eng
section
variable {w w' : W} {L L3 : Nat → Ned} {x z : Wrld} {k R : Int} {d : Nat} {raw : List Int} {A B : List Fly}
/-- every frame goes to a host -/
theorem FI.dst (I : Inv w) (NI : ∀ i, i < w.n → NetI w L i) (F : FI w L A B) {q : Fly} (hq : q ∈ A) : ∃ d : Nat, d < 3 ∧ q.1.dst = (d : Int) + 1 := by
  have f := F.fa q hq
  have age : w.now - q.1.t ≤ 4 := by have := f.t; omega
  have ofT : ∀ t, t < w.n → ToS w q.1 t → ∃ d : Nat, d < 3 ∧ q.1.dst = (d : Int) + 1 := fun t ht T => by
    have := I.hostR t ht
    exact ⟨(w.N t).host.toNat, by omega, by rw [T.dst]; omega⟩
  cases F.ph with
  | idle no a b => rw [a] at hq; exact absurd hq (by simp)
  | syn i hi only e c row st tm rt p a b fl h h3 dst => rw [a] at hq; rw [List.mem_singleton.1 hq]; exact ⟨h, h3, dst⟩
  | pre i p hi hp pe cl only e c row st rt e' c' row' st' rt' tm y wire fl =>
    rcases wire with ⟨a, _⟩ | ⟨a, _⟩
    · rw [a] at hq
      have hqy := List.mem_singleton.1 hq
      subst hqy
      cases I.recs q.1 f.d age with
      | rst k g => rw [fl] at g; exact absurd g (by decide)
      | syn a s k ca g => rw [fl] at g; exact absurd g (by decide)
      | est a b k n s kk mm v => rcases v.flags with g | ⟨g, _⟩ <;> rw [fl] at g <;> exact absurd g (by decide)
      | sa a b s k ca pb g sq ak da t pr =>
        obtain ⟨p0, p1, p2, _, p4, _⟩ := I.kid a s.hi ca
        exact ofT p0 (by have := s.hi; omega) (ToS.of I s p4)
    · rw [a] at hq; exact absurd hq (by simp)
  | pair i p m cl only op s1 s2 z =>
    obtain ⟨s, t, _, mst, to, _⟩ := frame_from I m cl only f.d age f.fl
    exact ofT t mst.hp to
/-- how the rows' waiting changes with a frame -/
theorem wait_step {r : Rc} (I : Inv w) (E : Ev w w') (hsome : (w.H d).segIn raw = some (r.src, r.g) → Disp w w' d r) (hno : (w.H d).segIn raw = none → NoEff w w') (h12 : (w.H d).segIn raw = none ∨ (w.H d).segIn raw = some (r.src, r.g)) (fl : r.g.flags / 8 * 8 = 0) : ∀ s e' c', s < w'.n → w'.row s e' c' → c'.x.st = 3 → c'.x.retries = 0 ∨ ∃ e c, s < w.n ∧ w.row s e c ∧ c.x.st = 3 ∧ c'.x.retries = c.x.retries ∧ (0 < c.x.timer → c'.x.timer = c.x.timer) := fun s e' c' hs r' st' => by
  have hs0 : s < w.n := by
    by_cases k : s < w.n
    · exact k
    · exact absurd st' ((E.nw s (by omega) hs).2 e' c' r')
  obtain ⟨e, c, r0, hne⟩ := E.op s e' c' hs0 r'
  have same : w'.row s e c → c'.x.retries = 0 ∨ ∃ e c, s < w.n ∧ w.row s e c ∧ c.x.st = 3 ∧ c'.x.retries = c.x.retries ∧ (0 < c.x.timer → c'.x.timer = c.x.timer) := fun k => by
    have := (r'.inj k).2; subst this
    exact .inr ⟨e, _, hs0, r0, st', rfl, fun _ => rfl⟩
  rcases h12 with h | h
  · exact same (((hno h).rows s hs0 e c).2 r0)
  · have D := hsome h
    by_cases hit : (w.N s).host = (d : Int) ∧ e.tup r.g.dp r.src r.g.sp
    · obtain ⟨⟨e1, r1⟩, _⟩ := D.hit s e c hs0 hit.1 r0 hit.2
      have hc := (r'.inj r1).2
      by_cases st : c.x.st = 3
      · rcases (Conn.input_k c fl).ret with q | ⟨q1, q2⟩
        · left; rw [hc]; exact q
        · right; exact ⟨e, c, hs0, r0, st, by rw [hc]; exact q1, fun t => by rw [hc]; exact q2 t⟩
      · left; rw [hc]; rw [hc] at st'; exact Conn.input_opn c r.g st' st
    · exact same (D.miss s e c hs0 r0 hit)
theorem in_12 (A0 : Law w L x k) {q : Fly} (f : FlW w q 1) (d3 : d < 3) : (w.H d).segIn q.2 = none ∨ (w.H d).segIn q.2 = some (q.1.src, q.1.g) := by
  have HI := A0.inv.hi d d3
  have clk := A0.syn.clk d d3
  have ra := A0.inv.ra d d3
  rw [clk] at ra
  obtain ⟨_, _, b7⟩ := Hst.in_frame HI.p HI.pa A0.inv.hist (fun s => (A0.inv.hT _).1) ra f.d (by have := f.t; omega) (A0.inv.gok q.1 f.d) f.f
  exact b7.imp id And.right
/-! ### lists -/
theorem wTake_some {l : List Flt} {i : Int} {raw : List Int} (h : wTake l i = some raw) : ∃ l1 f l2, l = l1 ++ f :: l2 ∧ f.raw = raw ∧ wRest l i = l1 ++ l2 := by
  unfold wTake at h
  cases hg : l[i.toNat]? with
  | none => rw [hg] at h; cases h
  | some f =>
    rw [hg] at h
    dsimp only at h
    split at h
    · rename_i q
      obtain ⟨hl, he⟩ := List.getElem?_eq_some_iff.1 hg
      refine ⟨l.take i.toNat, f, l.drop (i.toNat + 1), ?_, by simpa using h, ?_⟩
      · rw [← he, ← List.drop_eq_getElem_cons hl, List.take_append_drop]
      · unfold wRest wHas
        rw [if_pos (by rw [decide_eq_true_eq]; omega)]; rfl
    · cases h
theorem wTake_none {l : List Flt} {i : Int} (h : wTake l i = none) (ha : ∀ f, f ∈ l → f.age ≤ 4) : wRest l i = l := by
  unfold wRest wHas
  rw [if_neg]
  intro k
  rw [decide_eq_true_eq] at k
  have hl : i.toNat < l.length := by omega
  unfold wTake at h
  rw [List.getElem?_eq_getElem hl] at h
  dsimp only at h
  rw [if_pos ⟨k.1, ha _ (List.getElem_mem hl)⟩] at h
  cases h
theorem map_split {l1 l2 : List Flt} {f : Flt} {A : List Fly} (h : (l1 ++ f :: l2).map Flt.raw = A.map Prod.snd) : ∃ A1 q A2, A = A1 ++ q :: A2 ∧ q.2 = f.raw ∧ l1.map Flt.raw = A1.map Prod.snd ∧ l2.map Flt.raw = A2.map Prod.snd := by
  rw [List.map_append, List.map_cons] at h
  obtain ⟨A1, A2', e1, e2, e3⟩ := List.map_eq_append_iff.1 h.symm
  obtain ⟨q, A2, e4, e5, e6⟩ := List.map_eq_cons_iff.1 e3
  exact ⟨A1, q, A2, by rw [e1, e4], e5, e2.symm, e6.symm⟩
/-! ### between two steps of the script -/
theorem FairW.rest (A0 : Law w L x k) (F : FairW w L x) {i : Int} (hno : ∀ raw (d : Nat), wTake x.wr i = some raw → d < 3 → raw.getD 0 0 = (d : Int) + 1 → 0 < raw.length → False) : FairW w L { x with wr := wRest x.wr i } := by
  obtain ⟨A, F, W0, rt⟩ := F
  cases ht : wTake x.wr i with
  | some raw =>
    exfalso
    obtain ⟨l1, f, l2, e1, e2, _⟩ := wTake_some ht
    have hm := W0.raw
    rw [e1] at hm
    obtain ⟨A1, q, A2, a1, a2, _⟩ := map_split hm
    have hqA : q ∈ A := by rw [a1]; exact List.mem_append_right _ (List.mem_cons_self ..)
    obtain ⟨d, d3, hd⟩ := F.dst A0.inv A0.ni hqA
    obtain ⟨h1, h2⟩ := Rc.head (F.fa q hqA).f
    exact hno raw d ht d3 (by rw [← e2, ← a2, h1, hd]) (by rw [← e2, ← a2]; exact h2)
  | none =>
    have : wRest x.wr i = x.wr := wTake_none ht fun f hf => by have := W0.age f hf; omega
    refine ⟨A, F, ?_, rt⟩
    show Wx (wRest x.wr i) _ 1
    rw [this]; exact W0
/-- A FRAME in fair weather -/
theorem FairW.del (A0 : Law w L x k) (hk : k ≤ 1125899906842624) (F : FairW w L x) {i : Int} (ht : wTake x.wr i = some raw) (d3 : d < 3) (h0 : raw.getD 0 0 = (d : Int) + 1) : ((∀ s g, (x.H d).DispOk s g) ∧ ((x.H d).inputF raw).length ≤ 24) ∧ ∃ w' L3 z, Look (x.input i d raw) z ∧ Law w' L3 z (k + 1) ∧ (z.spilt = x.spilt → (∀ h, h < 3 → z.lost h = x.lost h) → FairW w' L3 z) := by
  obtain ⟨A, F, W0, rt⟩ := F
  have hns : (w.H d).t.nextSd < 1152921504606846976 := by have := A0.b.nsd d d3; omega
  obtain ⟨l1, f, l2, e1, e2, e3⟩ := wTake_some ht
  have hm := W0.raw
  rw [e1] at hm
  obtain ⟨A1, q, A2, a1, a2, a3, a4⟩ := map_split hm
  subst a1
  have fq := F.fa q (List.mem_append_right _ (List.mem_cons_self ..))
  have hqr : q.2 = raw := a2.trans e2
  obtain ⟨w', o, e, hsome, hno⟩ := A0.inv.inputR A0.syn d3 hns fq.d (by have := fq.t; omega) (raw := raw) (by rw [← hqr]; exact fq.f)
  obtain ⟨b1, b2, b3, L3, z, l3, l4, l5, l6, l7⟩ := A0.inputE hk ht d3 o e
  have eH := A0.H d d3
  refine ⟨⟨b1, b3⟩, w', L3, z, l3, l4, fun hs hl => ?_⟩
  have h12 := in_12 A0 fq d3
  rw [hqr] at h12
  obtain ⟨Dn, d1, d2, F'⟩ := F.come A0 l4 o e l7 hsome hno h12 hl hqr d3 h0
  have hF : (w.H d).inputF raw = (x.H d).inputF raw := by rw [eH]
  refine ⟨_, F'.merge, ?_, fun s e' c' hs' r' st' => ?_⟩
  · rw [l5]
    have sp : wSpill (wRest x.wr i) ((x.H d).inputF raw) = 0 := by
      have : z.spilt = x.spilt + wSpill (wRest x.wr i) ((x.H d).inputF raw) := l6
      omega
    show Wx (wPuts (wRest x.wr i) ((x.H d).inputF raw)) _ 1
    rw [wPuts_all _ _ sp, e3, List.map_append, List.map_append, List.nil_append, frp_snd, ← d2, hF]
    refine Wx.app ⟨by rw [List.map_append, a3, a4], fun g hg => W0.age g (by rw [e1]; rcases List.mem_append.1 hg with k | k; exact List.mem_append_left _ k; exact List.mem_append_right _ (List.mem_cons_of_mem _ k))⟩ ((Wx.fresh _).mono (by decide))
  · rcases wait_step A0.inv (Eff.ev A0.inv e) hsome hno h12 (by rw [fq.fl]; rfl) s e' c' hs' r' st' with q | ⟨e0, c0, s0, r0, st0, k1, k2⟩
    · exact .inl q
    · rcases rt s e0 c0 s0 r0 st0 with q | ⟨q1, q2⟩
      · exact .inl (by rw [k1]; exact q)
      · exact .inr ⟨by rw [k2 q1]; exact q1, by rw [k1]; exact q2⟩
/-! ### within a settle -/
def FairB (w : W) (L : Nat → Ned) (x : Wrld) (R : Int) : Prop := ∃ A, FI w L A [] ∧ Wx x.wr (A.map Prod.snd) 1 ∧ (R ≤ 8 → Early w R)
def FairM (w : W) (L : Nat → Ned) (x : Wrld) (n : Nat) (R : Int) : Prop := ∃ A B l1 l2, FI w L A B ∧ x.wr = l1 ++ l2 ∧ l1.length = n ∧ Wx l1 (A.map Prod.snd) 1 ∧ Wx l2 (B.map Prod.snd) 0 ∧ (R ≤ 8 → Early w R)
theorem FairW.start (F : FairW w L x) : FairB w L x 0 := by
  obtain ⟨A, F, W0, rt⟩ := F
  exact ⟨A, F, W0, fun _ => rt.early⟩
theorem FairB.mid (F : FairB w L x R) : FairM w L x x.wr.length R := by
  obtain ⟨A, F, W0, er⟩ := F
  exact ⟨A, [], x.wr, [], F, by simp, rfl, W0, ⟨rfl, fun f hf => absurd hf (by simp)⟩, er⟩
theorem FairM.take {n : Nat} (A0 : Law w L x k) (F : FairM w L x (n + 1) R) : ∃ raw d, d < 3 ∧ wTake x.wr 0 = some raw ∧ raw.getD 0 0 = ((d : Nat) : Int) + 1 ∧ 0 < raw.length := by
  obtain ⟨A, B, l1, l2, F, e1, e2, W1, W2, er⟩ := F
  cases l1 with
  | nil => simp at e2
  | cons f l1 =>
    have hm := W1.raw
    obtain ⟨A1, q, A2, a1, a2, a3, a4⟩ := map_split (l1 := []) hm
    have hqA : q ∈ A := by rw [a1]; exact List.mem_append_right _ (List.mem_cons_self ..)
    obtain ⟨d, d3, hd⟩ := F.dst A0.inv A0.ni hqA
    obtain ⟨h1, h2⟩ := Rc.head (F.fa q hqA).f
    refine ⟨f.raw, d, d3, ?_, by rw [← a2, h1, hd], by rw [← a2]; exact h2⟩
    rw [e1]; exact wTake_cons f _ (by have := W1.age f (List.mem_cons_self ..); omega)
theorem FairM.inp {n : Nat} (A0 : Law w L x k) (ht : wTake x.wr 0 = some raw) (d3 : d < 3) (h0 : raw.getD 0 0 = (d : Int) + 1) (J : InpW w L x k d raw w' L3 z) (hs : z.spilt = x.spilt) (hl : ∀ h, h < 3 → z.lost h = x.lost h) (F : FairM w L x (n + 1) R) : FairM w' L3 z n R := by
  obtain ⟨A, B, l1, l2, F, e1, e2, W1, W2, er⟩ := F
  cases l1 with
  | nil => simp at e2
  | cons f l1 =>
    have hf : f.raw = raw := by
      rw [e1, List.cons_append, wTake_cons f _ (by have := W1.age f (List.mem_cons_self ..); omega)] at ht
      injection ht
    obtain ⟨A1, q, A2, a1, a2, a3, a4⟩ := map_split (l1 := []) W1.raw
    have a3 : A1 = [] := List.map_eq_nil_iff.1 a3.symm
    subst a3
    subst a1
    have fq := F.fa q (by simp)
    have hqr : q.2 = raw := a2.trans hf
    have h12 := in_12 A0 fq d3
    rw [hqr] at h12
    obtain ⟨Dn, d1, d2, F'⟩ := F.come A0 J.law J.o J.e J.keep (J.dsp q.1) J.nof h12 hl hqr d3 h0
    have hr : wRest x.wr 0 = l1 ++ l2 := by rw [e1, List.cons_append, wRest_cons]
    have sp : wSpill (wRest x.wr 0) ((w.H d).inputF raw) = 0 := by have := J.sp; omega
    refine ⟨_, _, l1, l2 ++ ((w.H d).inputF raw).map fresh, F', ?_, by simpa using e2, ⟨by simpa using a4, fun g hg => W1.age g (List.mem_cons_of_mem _ hg)⟩, ?_, fun h8 => fun s e' c' hs' r' st' => ?_⟩
    · rw [J.wr, wPuts_all _ _ sp, hr, List.append_assoc]
    · rw [List.map_append, frp_snd, ← d2]
      exact W2.app (Wx.fresh _)
    · rcases wait_step A0.inv (Eff.ev A0.inv J.e) (J.dsp q.1) J.nof h12 (by rw [fq.fl]; rfl) s e' c' hs' r' st' with q | ⟨e0, c0, s0, r0, st0, k1, k2⟩
      · exact .inl q
      · rcases er h8 s e0 c0 s0 r0 st0 with q | ⟨q1, q2⟩
        · exact .inl (by rw [k1]; exact q)
        · exact .inr ⟨by rw [k2 q1]; exact q1, by rw [k1, k2 q1]; exact q2⟩
section
variable {w1 w2 w3 : W} {Dn : List Rc}
theorem FairM.tick (A0 : Law w L x k) (A3 : Law w' L3 z (k + 1)) (T : WTick w w1 w2 w3 w') (TW : TickW w w' x z Dn) (keep : Keep w.n L L3) (nt : NoTo w) (hR : 0 ≤ R) (hs : z.spilt = x.spilt) (F : FairM w L x 0 R) : FairB w' L3 z (R + 1) := by
  obtain ⟨A, B, l1, l2, F, e1, e2, W1, W2, er⟩ := F
  have h1 : l1 = [] := List.eq_nil_of_length_eq_zero e2
  subst h1
  have hA : A = [] := List.map_eq_nil_iff.1 W1.raw.symm
  subst hA
  refine ⟨_, F.tick A0.inv A0.ni A3.ni keep T TW.D TW.t nt, ?_, fun h8 => Early.tick A0.inv A0.ni F.nf T hR h8 (er (by omega))⟩
  rw [TW.wr hs, e1, List.nil_append, List.map_append, frp_snd]
  exact W2.tick.app ((Wx.fresh _).mono (by decide))
theorem FairM.lend {φ : Prop} {c sp : Int} {lo : Nat → Int} (A0 : Law w L x k) (F : φ → c = R → x.spilt = sp → (∀ h, h < 3 → x.lost h = lo h) → FairM w L x 0 R) : Lend φ R c w L x sp lo := by
  refine ⟨fun f hc h1 h2 => ?_, fun f hc h1 h2 w1 w2 w3 w' L3 Dn T NI' keep hD ht nt hDn s v m rs => ?_⟩
  · obtain ⟨A, B, l1, l2, F, _, _, _, _, er⟩ := F f hc h1 h2
    exact ⟨F.nf, er⟩
  · obtain ⟨A, B, l1, l2, F, e1, e2, W1, _, _⟩ := F f hc h1 h2
    have h1 : l1 = [] := List.eq_nil_of_length_eq_zero e2
    subst h1
    have hA : A = [] := List.map_eq_nil_iff.1 W1.raw.symm
    subst hA
    have F' := F.tick A0.inv A0.ni NI' keep T hD ht nt
    obtain ⟨e, c, rs⟩ := rs
    have I' := T.inv
    have hne : frp Dn ≠ [] := by
      cases hd : Dn with
      | nil => exact absurd hd hDn
      | cons r l =>
        have hf : ∃ f, f ∈ r.frames := by
          by_cases hl : r.dgr.pay.length ≤ 16
          · obtain ⟨f, g1, _⟩ := Rc.frames_one hl
            exact ⟨f, by rw [g1]; simp⟩
          · exact ⟨r.f1, by rw [Rc.frames_two (by omega)]; simp⟩
        obtain ⟨f, hf⟩ := hf
        intro h
        have := frp_mem.2 (show (r, f).1 ∈ r :: l ∧ (r, f).2 ∈ (r, f).1.frames from ⟨by simp, hf⟩)
        rw [h] at this; exact absurd this (by simp)
    have no1 : ∀ {j : Nat} {e : En} {c : Conn}, j < w'.n → w'.row j e c → c.x.st = 1 → (w'.N j).peer = -1 := fun {j e c} hj r st => by
      cases nf_row F'.nf I' NI' hj r with
      | syn _ _ nm => exact nm
      | srv s => omega
      | run p mm s => omega
      | fin p mm s => omega
    cases F'.ph with
    | idle no => exact absurd rs (no s m.hi e c)
    | syn i hi only e1 c1 row st =>
      by_cases hsi : s = i
      · subst hsi; have := no1 hi row st; have := m.ip; omega
      · exact absurd rs (only s m.hi hsi e c)
    | pre i p hi hp pe cl only e1 c1 row st rt e' c' row' =>
      by_cases hsi : s = i
      · subst hsi; have := no1 hi row st; have := m.ip; omega
      · by_cases hsp : s = p
        · subst hsp
          have : v = i := by have := m.ip; omega
          subst this; exact ⟨_, _, row⟩
        · exact absurd rs (only s m.hi hsi hsp e c)
    | pair i p mm cl only op s1 s2 z =>
      have nA : (B ++ frp Dn) ++ [] ≠ [] := by simp [hne]
      by_cases hsi : s = i
      · subst hsi
        have := m.right mm; subst this
        exact rows_of s1 z nA
      · by_cases hsp : s = p
        · subst hsp
          have := m.right mm.symm; subst this
          exact rows_of s2 z.symm nA
        · exact absurd rs (only s m.hi hsi hsp e c)
end
/-- a settle's end -/
theorem FairB.done (A0 : Law w L x k) {Ts c : Int} {φ : Prop} (f : φ) (hR : 40 ≤ R) (hc : c = R) (Bd0 : Bd φ Ts R c w L x) (F : FairB w L x R) : FairW w L x := by
  obtain ⟨A, F, W0, _⟩ := F
  obtain ⟨P, _, _, _, _, mt⟩ := Bd0.wire (by omega)
  exact ⟨A, F, W0, (mt f (by omega) hc).rt A0.inv A0.ni F.nf hR⟩
end
end Go.Proofs.Qxb6500351aGreat
