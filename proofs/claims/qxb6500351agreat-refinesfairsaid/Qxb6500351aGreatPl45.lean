/- THE PLAIN LAW of the law's walk: a look answers true. No Go in sight. -/
import Derived.Test.Qxb6500351aGreatPl44
set_option linter.unusedVariables false
set_option linter.unusedSimpArgs false
namespace Go.Proofs.Qxb6500351aGreat
open Go.Eng
/-- how far things have grown behind k looks -/
structure Bnd (w : W) (x : Wrld) (k : Int) : Prop where
  nsd : ∀ h, h < 3 → (w.H h).t.nextSd ≤ k + 1
  now : 0 ≤ w.now ∧ w.now ≤ k
  lost : ∀ h, h < 3 → 0 ≤ (w.H h).lost ∧ (w.H h).lost ≤ 200 * k
  n : (w.n : Int) ≤ k
  sent : ∀ i, i < w.n → ((w.N i).sent.length : Int) ≤ 16 * k
  ready : (x.ready.length : Int) ≤ 18 * k
  spilt : 0 ≤ x.spilt ∧ x.spilt ≤ 72 * k
  dl : ∀ h, 0 ≤ x.dl h ∧ x.dl h ≤ k
structure Law (w : W) (L : Nat → Ned) (x : Wrld) (k : Int) : Prop where
  inv : Inv w
  syn : Syn w
  kc : KC w
  H : ∀ h, h < 3 → x.H h = w.H h
  N : x.N = LL L w.n
  ni : ∀ i, i < w.n → NetI w L i
  wr : WrOk w.D w.now x.wr
  wl : x.wr.length ≤ 64
  top : ∀ h, h < 3 → 0 ≤ x.top h ∧ x.top h < (w.H h).t.nextSd ∧ ∀ sd, sd ∈ x.seen h → sd ≤ x.top h
  seen : ∀ h, h < 3 → x.seen h = (w.H h).t.list
  lost : ∀ h, h < 3 → x.lost h = (w.H h).lost
  out : ∀ h, h < 3 → x.out h = 24 - (w.H h).p.credit
  tick : x.ticks = w.now
  flood : x.flood = false
  rdy : RdyI w x.ready
  b : Bnd w x k
/-- behind an op, before the look -/
structure Pre (w : W) (x : Wrld) (k : Int) (w' : W) (L' : Nat → Ned) (m : Nat) (y : Wrld) : Prop where
  inv : Inv w'
  syn : Syn w'
  kc : KC w'
  st : Stage w' y.dl L' m 0
  hs : ∀ h, h < 3 → HStep w w' h
  N : y.N = LL L' m
  H : ∀ h, h < 3 → y.H h = w'.H h
  top : y.top = x.top
  seen : y.seen = x.seen
  ready : y.ready = x.ready
  lost : y.lost = x.lost
  ticks : y.ticks = w'.now
  flood : y.flood = false
  out : ∀ h, h < 3 → y.out h = 24 - (w'.H h).p.credit
  lo : ∀ h, h < 3 → (w'.H h).lost = (w.H h).lost ∨ ((w.H h).lost < (w'.H h).lost ∧ (w'.H h).p.credit = 0)
  lb : ∀ h, h < 3 → (w'.H h).lost ≤ (w.H h).lost + 200
  wr : WrOk w'.D w'.now y.wr
  wl : y.wr.length ≤ 64
  nowB : w.now ≤ w'.now ∧ w'.now ≤ w.now + 1
  nB : w'.n ≤ w.n + 1
  seB : ∀ i, i < w'.n → ((w'.N i).sent.length : Int) ≤ 16 * (k + 1)
  spB : x.spilt ≤ y.spilt ∧ y.spilt ≤ x.spilt + 72
  dlB : ∀ h, 0 ≤ y.dl h ∧ y.dl h ≤ k + 1
theorem rdyTo_len (c : Int) (H : Hst) : ∀ (l : List Int) (r : List Wt), (rdyTo c H l r).length ≤ r.length + l.length
  | [], r => by simp [rdyTo]
  | sd :: l, r => by
    have h1 := rdyTo_len c H l (rdyStep c H r sd)
    have h2 : (rdyStep c H r sd).length ≤ r.length + 1 := by
      unfold rdyStep; split
      · rw [List.length_append, List.length_singleton]; omega
      · omega
    simp only [rdyTo, List.length_cons]; omega
/-- who has failed stays so -/
def Keep (m : Nat) (L L' : Nat → Ned) : Prop := ∀ i, i < m → ((L i).state = 4 → (L' i).state = 4 ∧ ((L i).why ≠ 0 → (L' i).why ≠ 0)) ∧ ((L' i).gone = true → (L' i).why = (L i).why)
theorem Law.look {w : W} {L : Nat → Ned} {x : Wrld} {k : Int} (A : Law w L x k) {w' : W} {L' : Nat → Ned} {m : Nat} {y : Wrld} (P : Pre w x k w' L' m y) : ∃ z L3, Look y z ∧ Law w' L3 z (k + 1) ∧ z.wr = y.wr ∧ z.spilt = y.spilt ∧ Keep m L' L3 := by
  obtain ⟨n1, n2, n3, n4, n5, L3, k1, k2, k3, NI, kw⟩ := look_all P.inv P.kc P.st
  have hmn : m ≤ w'.n := by
    rcases P.st.hm with q | ⟨_, _, q⟩
    · omega
    · have := q.n; omega
  have kp : Keep m L' L3 := fun i hi => by
    refine ⟨fun h4 => ?_, fun hg => ?_⟩
    case refine_2 =>
      by_cases hr : ∃ e c, w'.row i e c
      · obtain ⟨e, c, r⟩ := hr
        rw [((NI i (by omega)).row e c r).1] at hg; cases hg
      · exact kw i hi fun e c r => hr ⟨e, c, r⟩
    have PP := P.st.todo i hi (by have := (P.inv.hostR i (by omega)).1; omega)
    have NN := NI i (by omega)
    by_cases hr : ∃ e c, w'.row i e c
    · obtain ⟨e, c, r⟩ := hr
      obtain ⟨_, a2, a3, _⟩ := PP.row e c r
      obtain ⟨_, b2, b3, _⟩ := NN.row e c r
      have c4 : c.x.st = 4 := by
        rw [h4] at a2
        unfold mayStep at a2
        simp at a2
        exact a2.symm
      refine ⟨b2.trans c4, fun hw => ?_⟩
      rw [b3]
      rcases a3 h4 with q | ⟨_, q⟩
      · rw [q]; exact hw
      · rw [q]; decide
    · have ha : ∀ e c, ¬ w'.row i e c := fun e c r => hr ⟨e, c, r⟩
      exact ⟨(NN.norow ha).2, fun hw => by rw [kw i hi ha]; exact hw⟩
  have top : ∀ h, h < 3 → ∃ t', topTo (x.seen h) (w'.H h).t.list (x.top h) = some t' ∧ 0 ≤ t' ∧ t' < (w'.H h).t.nextSd ∧ ∀ sd, sd ∈ (w'.H h).t.list → sd ≤ t' := fun h h3 => by
    obtain ⟨t1, t2, t3⟩ := A.top h h3
    have sn := A.seen h h3
    have G' := (P.inv.hi h h3).good
    have G := (A.inv.hi h h3).good
    have hnx := G.r.next
    obtain ⟨l1, l2, l3⟩ := G'.r.list
    have sdlt : ∀ sd, sd ∈ (w'.H h).t.list → sd < (w'.H h).t.nextSd := fun sd hsd => by
      obtain ⟨e, he⟩ := (l3 sd).1 hsd
      obtain ⟨i, i1, _, i3, i4⟩ := Tb.at_row he
      have := (G'.r.sd i e i1 i3).2; omega
    have old : ∀ sd, sd ∈ (w'.H h).t.list → sd ∈ x.seen h ∨ sd = (w.H h).t.nextSd := fun sd hsd => by
      obtain ⟨e, he⟩ := (l3 sd).1 hsd
      rcases (P.hs h h3).at_ sd e he with ⟨e0, a, _⟩ | a
      · exact .inl (by rw [sn]; exact (G.r.list.2.2 sd).2 ⟨e0, a⟩)
      · exact .inr a
    have hns : (w.H h).t.nextSd ∉ x.seen h := fun q => by have := t3 _ q; omega
    have nsd := (P.hs h h3).nsd
    refine ⟨_, topTo_ok hns _ _ (sorted_nodup l1) old (fun _ => t2), ?_, ?_, fun sd hsd => ?_⟩
    · split <;> omega
    · split
      · rename_i q; exact sdlt _ q
      · omega
    · split
      · rcases old sd hsd with q | q
        · have := t3 sd q; omega
        · omega
      · rename_i q
        rcases old sd hsd with q' | q'
        · exact t3 sd q'
        · exact absurd (q' ▸ hsd) q
  have lk : ∀ (h : Nat), h < 3 → (w'.H h).ChkOk ∧ (w'.H h).clock = w'.now ∧ (x.lost h ≤ (w'.H h).lost ∧ (x.lost h < (w'.H h).lost → y.out h = 24)) := fun h h3 => by
    refine ⟨P.inv.chkOk h3, P.syn.clk h h3, ?_⟩
    rw [A.lost h h3]
    rcases P.lo h h3 with q | ⟨q, q'⟩
    · exact ⟨by omega, fun _ => by omega⟩
    · refine ⟨by omega, fun _ => ?_⟩
      rw [P.out h h3, q']; rfl
  obtain ⟨ta, ta1, ta2, ta3, ta4⟩ := top 0 (by omega)
  obtain ⟨tb, tb1, tb2, tb3, tb4⟩ := top 1 (by omega)
  obtain ⟨tc, tc1, tc2, tc3, tc4⟩ := top 2 (by omega)
  have H0 := P.H 0 (by omega); have H1 := P.H 1 (by omega); have H2 := P.H 2 (by omega)
  have up1 : ∀ {α : Type} (f : Nat → α) (v : α) (j : Nat), j ≠ 0 → upA f 0 v j = f j := fun f v j hj => upA_ne _ _ hj
  -- the three looks
  obtain ⟨x1, hx1⟩ : ∃ x1 : Wrld, x1 = { y with lost := upA y.lost 0 (y.H 0).lost, top := upA y.top 0 ta, seen := upA y.seen 0 (y.H 0).t.list, N := n2, ready := rdyTo ((0 : Nat) : Int) (y.H 0) (y.H 0).t.list y.ready } := ⟨_, rfl⟩
  obtain ⟨x2, hx2⟩ : ∃ x2 : Wrld, x2 = { x1 with lost := upA x1.lost 1 (x1.H 1).lost, top := upA x1.top 1 tb, seen := upA x1.seen 1 (x1.H 1).t.list, N := n4, ready := rdyTo ((1 : Nat) : Int) (x1.H 1) (x1.H 1).t.list x1.ready } := ⟨_, rfl⟩
  obtain ⟨x3, hx3⟩ : ∃ x3 : Wrld, x3 = { x2 with lost := upA x2.lost 2 (x2.H 2).lost, top := upA x2.top 2 tc, seen := upA x2.seen 2 (x2.H 2).t.list, N := LL L3 w'.n, ready := rdyTo ((2 : Nat) : Int) (x2.H 2) (x2.H 2).t.list x2.ready } := ⟨_, rfl⟩
  have eH1 : x1.H = y.H := by rw [hx1]
  have eH2 : x2.H = y.H := by rw [hx2]; exact eH1
  have eH3 : x3.H = y.H := by rw [hx3]; exact eH2
  have c0 : LookC y 0 x1 := by
    obtain ⟨a1, a2, a3⟩ := lk 0 (by omega)
    have EO := P.inv.entOk (h := 0) (by omega)
    refine ⟨by rw [H0]; exact a1, by rw [H0, P.ticks]; exact a2, by rw [H0, P.lost]; exact a3, by rw [H0]; exact EO.srt, by rw [H0]; exact EO.ent, n1, n2, ta, by rw [H0, P.seen, P.top]; exact ta1, by rw [H0, P.N]; exact k1, hx1⟩
  have c1 : LookC x1 1 x2 := by
    obtain ⟨a1, a2, a3⟩ := lk 1 (by omega)
    have EO := P.inv.entOk (h := 1) (by omega)
    have e1 : x1.ticks = y.ticks ∧ x1.lost 1 = x.lost 1 ∧ x1.out = y.out ∧ x1.seen 1 = x.seen 1 ∧ x1.top 1 = x.top 1 ∧ x1.dl = y.dl ∧ x1.N = n2 := by
      rw [hx1]
      refine ⟨rfl, ?_, rfl, ?_, ?_, rfl, rfl⟩
      · dsimp only; rw [up1 _ _ _ (by decide), P.lost]
      · dsimp only; rw [up1 _ _ _ (by decide), P.seen]
      · dsimp only; rw [up1 _ _ _ (by decide), P.top]
    obtain ⟨b1, b2, b3, b4, b5, b6, b7⟩ := e1
    refine ⟨by rw [eH1, H1]; exact a1, by rw [eH1, H1, b1, P.ticks]; exact a2, by rw [eH1, H1, b2, b3]; exact a3, by rw [eH1, H1]; exact EO.srt, by rw [eH1, H1]; exact EO.ent, n3, n4, tb, by rw [eH1, H1, b4, b5]; exact tb1, by rw [eH1, H1, b6, b7]; exact k2, hx2⟩
  have c2 : LookC x2 2 x3 := by
    obtain ⟨a1, a2, a3⟩ := lk 2 (by omega)
    have EO := P.inv.entOk (h := 2) (by omega)
    have e1 : x2.ticks = y.ticks ∧ x2.lost 2 = x.lost 2 ∧ x2.out = y.out ∧ x2.seen 2 = x.seen 2 ∧ x2.top 2 = x.top 2 ∧ x2.dl = y.dl ∧ x2.N = n4 := by
      rw [hx2, hx1]
      refine ⟨rfl, ?_, rfl, ?_, ?_, rfl, rfl⟩
      · dsimp only; rw [upA_ne _ _ (by decide), upA_ne _ _ (by decide), P.lost]
      · dsimp only; rw [upA_ne _ _ (by decide), upA_ne _ _ (by decide), P.seen]
      · dsimp only; rw [upA_ne _ _ (by decide), upA_ne _ _ (by decide), P.top]
    obtain ⟨b1, b2, b3, b4, b5, b6, b7⟩ := e1
    refine ⟨by rw [eH2, H2]; exact a1, by rw [eH2, H2, b1, P.ticks]; exact a2, by rw [eH2, H2, b2, b3]; exact a3, by rw [eH2, H2]; exact EO.srt, by rw [eH2, H2]; exact EO.ent, n5, _, tc, by rw [eH2, H2, b4, b5]; exact tc1, by rw [eH2, H2, b6, b7]; exact k3, hx3⟩
  have r1 : x1.ready = rdyTo 0 (y.H 0) (y.H 0).t.list x.ready := by rw [hx1, ← P.ready]; rfl
  have r2 : x2.ready = rdyTo 1 (y.H 1) (y.H 1).t.list x1.ready := by rw [hx2, eH1]; rfl
  have r3 : x3.ready = rdyTo 2 (y.H 2) (y.H 2).t.list x2.ready := by rw [hx3, eH2]; rfl
  have R' := RdyI.next A.inv P.inv P.H P.hs A.rdy r1 r2 r3
  have e3 : x3.wr = y.wr ∧ x3.spilt = y.spilt ∧ x3.ticks = y.ticks ∧ x3.out = y.out ∧ x3.flood = y.flood ∧ x3.dl = y.dl ∧ x3.N = LL L3 w'.n := by rw [hx3, hx2, hx1]; exact ⟨rfl, rfl, rfl, rfl, rfl, rfl, rfl⟩
  obtain ⟨d1, d2, d3, d4, d5, d6, d7⟩ := e3
  have t3 : ∀ h, h < 3 → x3.lost h = (w'.H h).lost ∧ x3.seen h = (w'.H h).t.list ∧ 0 ≤ x3.top h ∧ x3.top h < (w'.H h).t.nextSd ∧ ∀ sd, sd ∈ (w'.H h).t.list → sd ≤ x3.top h := fun h h3 => by
    have hh : h = 0 ∨ h = 1 ∨ h = 2 := by omega
    rw [hx3, eH2, hx2, eH1, hx1]
    rcases hh with rfl | rfl | rfl
    · rw [← H0]
      refine ⟨?_, ?_, ?_⟩
      · dsimp only; rw [upA_ne _ _ (by decide), upA_ne _ _ (by decide), upA_at]
      · dsimp only; rw [upA_ne _ _ (by decide), upA_ne _ _ (by decide), upA_at]
      · have e : (upA (upA (upA y.top 0 ta) 1 tb) 2 tc) 0 = ta := by rw [upA_ne _ _ (by decide), upA_ne _ _ (by decide), upA_at]
        dsimp only
        rw [e, H0]; exact ⟨ta2, ta3, ta4⟩
    · rw [← H1]
      refine ⟨?_, ?_, ?_⟩
      · dsimp only; rw [upA_ne _ _ (by decide), upA_at]
      · dsimp only; rw [upA_ne _ _ (by decide), upA_at]
      · have e : (upA (upA (upA y.top 0 ta) 1 tb) 2 tc) 1 = tb := by rw [upA_ne _ _ (by decide), upA_at]
        dsimp only
        rw [e, H1]; exact ⟨tb2, tb3, tb4⟩
    · rw [← H2]
      refine ⟨?_, ?_, ?_⟩
      · dsimp only; rw [upA_at]
      · dsimp only; rw [upA_at]
      · have e : (upA (upA (upA y.top 0 ta) 1 tb) 2 tc) 2 = tc := by rw [upA_at]
        dsimp only
        rw [e, H2]; exact ⟨tc2, tc3, tc4⟩
  have ls : x3.sweep.ready = x3.ready.filter (keepW x3.H) := rfl
  refine ⟨x3.sweep, L3, ⟨P.flood, x1, x2, x3, c0, c1, c2, rfl⟩, ⟨P.inv, P.syn, P.kc, fun h h3 => by show x3.H h = _; rw [eH3]; exact P.H h h3, d7, NI, by show WrOk _ _ x3.wr; rw [d1]; exact P.wr, by show x3.wr.length ≤ 64; rw [d1]; exact P.wl, fun h h3 => ?_, fun h h3 => (t3 h h3).2.1, fun h h3 => (t3 h h3).1, fun h h3 => by show x3.out h = _; rw [d4]; exact P.out h h3, by show x3.ticks = _; rw [d3]; exact P.ticks, by show x3.flood = _; rw [d5]; exact P.flood, by rw [ls, eH3]; exact R', ?_⟩, d1, d2, kp⟩
  · obtain ⟨q1, q2, q3, q4, q5⟩ := t3 h h3
    exact ⟨q3, q4, fun sd hsd => q5 sd (by rw [← q2]; exact hsd)⟩
  · have B := A.b
    refine ⟨fun h h3 => by have := B.nsd h h3; have := (P.hs h h3).nsd; omega, by have := B.now; have := P.nowB; omega, fun h h3 => ?_, by have := B.n; have := P.nB; omega, P.seB, ?_, by show 0 ≤ x3.spilt ∧ x3.spilt ≤ _; rw [d2]; have := B.spilt; have := P.spB; omega, fun h => by show 0 ≤ x3.dl h ∧ x3.dl h ≤ _; rw [d6]; exact P.dlB h⟩
    · have := B.lost h h3
      have h2 := P.lb h h3
      rcases P.lo h h3 with q | q <;> omega
    · have g1 := rdyTo_len 0 (y.H 0) (y.H 0).t.list x.ready
      have g2 := rdyTo_len 1 (y.H 1) (y.H 1).t.list x1.ready
      have g3 := rdyTo_len 2 (y.H 2) (y.H 2).t.list x2.ready
      rw [← r1] at g1; rw [← r2] at g2; rw [← r3] at g3
      have l0 := (y.H 0).t.list_len
      have l1 := (y.H 1).t.list_len
      have l2 := (y.H 2).t.list_len
      have g4 : x3.sweep.ready.length ≤ x3.ready.length := List.length_filter_le _ _
      have := B.ready
      omega
end Go.Proofs.Qxb6500351aGreat
