/- FAIR WEATHER, part 11: the caller's calls. No Go in sight. -/
import Derived.Test.Qxb6500351aGreatLv11
import Derived.Test.Qxb6500351aGreatPl51
set_option linter.unusedVariables false
set_option linter.unusedSimpArgs false
namespace Go.Proofs.Qxb6500351aGreat
open Go.Eng
/-- FAIR WEATHER between two steps of the script -/
def FairW (w : W) (L : Nat → Ned) (x : Wrld) : Prop := ∃ A, FI w L A [] ∧ Wx x.wr (A.map Prod.snd) 1 ∧ RT w
section
variable {w w' : W} {L L3 : Nat → Ned} {x z : Wrld} {k : Int} {A : List Fly} {Dn : List Rc}
/-- the frames of a call on the wire -/
theorem CallW.wx (C : CallW w L x w' L3 z) (hs : z.spilt = x.spilt) (W : Wx x.wr (A.map Prod.snd) 1) : ∃ Dn, w'.D = w.D ++ Dn ∧ (∀ r, r ∈ Dn → r.t = w.now) ∧ Wx z.wr ((A ++ frp Dn).map Prod.snd) 1 := by
  obtain ⟨Dn, d1, d2, d3, d4⟩ := C.wire
  refine ⟨Dn, d1, d4, ?_⟩
  rw [d2, wPuts_all _ _ (by omega), List.map_append, frp_snd]
  exact W.app ((Wx.fresh _).mono (by decide))
theorem FI.tab (I : Inv w) (NI : ∀ i, i < w.n → NetI w L i) (NI' : ∀ i, i < w'.n → NetI w' L3 i) (keep : Keep w.n L L3) (n : w'.n = w.n) (N : w'.N = w.N) (G : w'.G = w.G) (D : w'.D = w.D) (now : w'.now = w.now) (rowF : ∀ j, j < w.n → ∀ e' c, w'.row j e' c → ∃ e, w.row j e c ∧ Sim e e') (rowB : ∀ j, j < w.n → ∀ e c, w.row j e c → ∃ e', w'.row j e' c) (lis : LisK w w') (F : FI w L A []) : FI w' L3 A [] := by
  have hD' : w'.D = w.D ++ [] := by rw [D]; simp
  have no : ∀ j, j < w.n → NoRow w j → NoRow w' j := fun j hj h e c r => by obtain ⟨e0, r0, _⟩ := rowF j hj e c r; exact h e0 c r0
  have fin : ∀ s x, FinTok w s x → FinTok w' s x := fun s x T => ⟨T.b, ⟨by rw [N]; exact T.to.dst, by rw [N]; exact T.to.src, by rw [N]; exact T.to.dp, by rw [N]; exact T.to.sp⟩, by rw [G]; exact T.ack⟩
  have opt : ∀ s x, OpTok w s x → OpTok w' s x := fun s x T => ⟨T.b, ⟨by rw [N]; exact T.to.dst, by rw [N]; exact T.to.src, by rw [N]; exact T.to.dp, by rw [N]; exact T.to.sp⟩, by rw [G]; exact T.ack⟩
  refine ⟨fun v hv => ?_, fun p hp => (F.fa p hp).ev hD' now, fun p hp => absurd hp (by simp), ?_⟩
  · rw [n] at hv
    exact nf_same NI NI' keep I F.nf (by rw [n]; exact Nat.le_refl _) (fun j hj e c r => by obtain ⟨e0, r0, _⟩ := rowF j hj e c r; exact ⟨e0, c, r0, fun _ => rfl⟩) (fun j hj hno => norow_state NI hj fun e c r => by obtain ⟨e1, r1⟩ := rowB j hj e c r; exact hno e1 c r1) hv
  cases F.ph with
  | idle h a b => exact .idle (fun j hj => by rw [n] at hj; exact no j hj (h j hj)) a b
  | syn i hi only e c row st tm rt p a b fl h h3 dst nh li =>
    obtain ⟨e1, r1⟩ := rowB i hi e c row
    obtain ⟨sd, f, f1, f2, f3⟩ := li
    obtain ⟨sd', f', g1, g2, g3⟩ := lis h h3 sd f f1 f2
    exact .syn i (by rw [n]; exact hi) (fun j hj hji => by rw [n] at hj; exact no j hj (only j hj hji)) e1 c r1 st tm rt p a b fl h h3 dst (by rw [N]; exact nh) ⟨sd', f', g1, g2, g3.trans f3⟩
  | pre i p hi hp pe cl only e c row st rt e' c' row' st' rt' tm q wire fl =>
    obtain ⟨e1, r1⟩ := rowB i hi e c row
    obtain ⟨e2, r2⟩ := rowB p hp e' c' row'
    exact .pre i p (by rw [n]; exact hi) (by rw [n]; exact hp) (by rw [N]; exact pe) (by rw [N]; exact cl) (fun j hj h1 h2 => by rw [n] at hj; exact no j hj (only j hj h1 h2)) e1 c r1 st rt e2 c' r2 st' rt' tm q wire fl
  | pair i p m cl only op s1 s2 z =>
    have q1 : ∀ v k, v < w.n → Qle w' v k → Qle w v k := fun v k hv Q e c r => by obtain ⟨e1, r1⟩ := rowB v hv e c r; exact Q e1 c r1
    have q2 : ∀ v k, v < w.n → Qle w v k → Qle w' v k := fun v k hv Q e c r => by obtain ⟨e1, r1, _⟩ := rowF v hv e c r; exact Q e1 c r1
    have ps : ∀ s v, w.mut s v → PS w A [] s v → PS w' A [] s v := fun s v mm P => by
      refine ⟨fun hp ha => ?_, fun k k0 k8 Q => q2 s _ mm.hi (P.y2 k k0 k8 (q1 v k mm.hp Q)), fun Q => ?_⟩
      · rw [G] at hp ha
        obtain ⟨x, x1, x2⟩ := P.y1 hp ha
        exact ⟨x, x1, fin s x x2⟩
      · refine (P.y3 (q1 v 9 mm.hp Q)).imp (fun k e c r => by obtain ⟨e1, r1, _⟩ := rowF s mm.hi e c r; exact k e1 c r1) fun ⟨x, x1, x2⟩ => ⟨x, x1, fin s x x2⟩
    refine .pair i p ⟨by rw [n]; exact m.hi, by rw [n]; exact m.hp, by rw [N]; exact m.ip, by rw [N]; exact m.pi⟩ (by rw [N]; exact cl) (fun j hj h1 h2 => by rw [n] at hj; exact no j hj (only j hj h1 h2)) (fun e c r st => ?_) (ps i p m s1) (ps p i m.symm s2) ⟨fun a b => z.z9 (q1 i 9 m.hi a) (q1 p 9 m.hp b), fun a b => z.z8 (q1 i 8 m.hi a) (q1 p 8 m.hp b), fun a b => z.z7 (q1 i 7 m.hi a) (q1 p 7 m.hp b)⟩
    obtain ⟨e0, r0, _⟩ := rowF p m.hp e c r
    obtain ⟨⟨ei, ci, ri, sti⟩, ⟨x, x1, x2⟩, hr⟩ := op e0 c r0 st
    obtain ⟨e1, r1⟩ := rowB i m.hi ei ci ri
    exact ⟨⟨e1, ci, r1, sti⟩, ⟨x, x1, opt p x x2⟩, hr.imp id fun ⟨k, y, y1, y2⟩ => ⟨k, y, y1, opt p y y2⟩⟩
/-- a call on one connection -/
theorem FI.rowX (I : Inv w) (I' : Inv w') (NI : ∀ i, i < w.n → NetI w L i) (NI' : ∀ i, i < w'.n → NetI w' L3 i) (keep : Keep w.n L L3) (now : w'.now = w.now) (hD : w'.D = w.D ++ Dn) (hDt : ∀ r, r ∈ Dn → r.t = w.now) {t : Nat} (R : RowEff w w' t) (X : RowX w w' t) (F : FI w L A []) : FI w' L3 (A ++ frp Dn) [] := by
  obtain ⟨et, ct, ct', rt, rt', st34, stE, PK, hDn⟩ := X.row
  have hDn := hDn Dn hD
  have n := R.n
  have back : ∀ j, j < w.n → ∀ e' c', w'.row j e' c' → ∃ e c, w.row j e c ∧ c'.x.st = c.x.st ∧ c'.x.quiet = c.x.quiet ∧ c'.x.why = c.x.why ∧ c'.x.retries = c.x.retries := fun j hj e' c' r => by
    by_cases hjt : j = t
    · subst hjt
      have := (r.inj rt').2; subst this
      exact ⟨et, ct, rt, stE, PK.quiet, PK.why, PK.ret⟩
    · exact ⟨e', c', (R.rows j hj hjt e' c').1 r, rfl, rfl, rfl, rfl⟩
  have fwd : ∀ j, j < w.n → ∀ e c, w.row j e c → ∃ e' c', w'.row j e' c' ∧ c'.x.st = c.x.st ∧ c'.x.quiet = c.x.quiet := fun j hj e c r => by
    by_cases hjt : j = t
    · subst hjt
      have := (r.inj rt).2; subst this
      exact ⟨_, _, rt', stE, PK.quiet⟩
    · exact ⟨e, c, (R.rows j hj hjt e c).2 r, rfl, rfl⟩
  have no : ∀ j, j < w.n → NoRow w j → NoRow w' j := fun j hj h e c r => by obtain ⟨e0, c0, r0, _⟩ := back j hj e c r; exact h e0 c0 r0
  have sid : ∀ j, SameId (w.N j) (w'.N j) := fun j => by
    by_cases hjt : j = t
    · subst hjt; exact R.id
    · rw [R.N j hjt]; exact SameId.refl _
  have gE : ∀ j, (w'.G j).iss = (w.G j).iss ∧ (w'.G j).fa = (w.G j).fa ∧ (w'.G j).pf = (w.G j).pf ∧ ((w.G j).f = true → (w'.G j).X = (w.G j).X) := fun j => by
    by_cases hjt : j = t
    · subst hjt; exact ⟨X.iss, X.fa, X.pf, fun h => (X.x h).1⟩
    · rw [R.G j hjt]; exact ⟨rfl, rfl, rfl, fun _ => rfl⟩
  have toE : ∀ j r, ToS w r j → ToS w' r j := fun j r T => ⟨by rw [(sid j).host]; exact T.dst, by rw [(sid j).rh]; exact T.src, by rw [(sid j).lp]; exact T.dp, by rw [(sid j).rp]; exact T.sp⟩
  have peE : ∀ j, (w'.N j).peer = (w.N j).peer := fun j => by
    by_cases hjt : j = t
    · subst hjt; exact X.pe
    · rw [R.N j hjt]
  have inA : ∀ x, x ∈ A → x ∈ A ++ frp Dn := fun x hx => List.mem_append_left _ hx
  refine ⟨fun v hv => ?_, fun p hp => ?_, fun p hp => absurd hp (by simp), ?_⟩
  · rw [n] at hv
    exact nf_same NI NI' keep I F.nf (by rw [n]; exact Nat.le_refl _) (fun j hj e c r => by obtain ⟨e0, c0, r0, _, _, k, _⟩ := back j hj e c r; exact ⟨e0, c0, r0, fun _ => k⟩) (fun j hj hno => norow_state NI hj fun e c r => by obtain ⟨e1, c1, r1, _⟩ := fwd j hj e c r; exact hno e1 c1 r1) hv
  · rcases List.mem_append.1 hp with q | q
    · exact (F.fa p q).ev hD now
    · exact (frp_flW hD now hDt (fun r hr => (hDn r hr).2) p q).mono (by decide)
  cases F.ph with
  | idle h a b => exact absurd rt (h t R.hi et ct)
  | syn i hi only e c row st =>
    exfalso
    by_cases hti : t = i
    · subst hti; have := (rt.inj row).2; rw [this] at st34; omega
    · exact only t R.hi hti et ct rt
  | pre i p hi hp pe cl only e c row st rt0 e' c' row' st' =>
    exfalso
    by_cases hti : t = i
    · subst hti; have := (rt.inj row).2; rw [this] at st34; omega
    · by_cases htp : t = p
      · subst htp; have := (rt.inj row').2; rw [this] at st34; omega
      · exact only t R.hi hti htp et ct rt
  | pair i p m cl only op s1 s2 z =>
    have htip : t = i ∨ t = p := by
      by_cases hti : t = i
      · exact .inl hti
      · by_cases htp : t = p
        · exact .inr htp
        · exact absurd rt (only t R.hi hti htp et ct)
    have q1 : ∀ v k, v < w.n → Qle w' v k → Qle w v k := fun v k hv Q e c r => by obtain ⟨e1, c1, r1, a, b⟩ := fwd v hv e c r; have := Q e1 c1 r1; exact ⟨by omega, by omega⟩
    have q2 : ∀ v k, v < w.n → Qle w v k → Qle w' v k := fun v k hv Q e c r => by obtain ⟨e1, c1, r1, a, b, _⟩ := back v hv e c r; have := Q e1 c1 r1; exact ⟨by omega, by omega⟩
    have m' : w'.mut i p := ⟨by rw [n]; exact m.hi, by rw [n]; exact m.hp, by rw [peE]; exact m.ip, by rw [peE]; exact m.pi⟩
    have ps : ∀ s v, w.mut s v → PS w A [] s v → PS w' (A ++ frp Dn) [] s v := fun s v mm P => by
      have fin : (w.G v).pf = true → ∀ x, FinTok w s x → FinTok w' s x := fun hp x T => by
        have hf := ((I.pair s v mm).pf hp).1
        exact ⟨T.b, toE s _ T.to, by rw [(gE s).1, (gE s).2.2.2 hf]; exact T.ack⟩
      refine ⟨fun hp ha => ?_, fun k k0 k8 Q => q2 s _ mm.hi (P.y2 k k0 k8 (q1 v k mm.hp Q)), fun Q => ?_⟩
      · rw [(gE v).2.2.1] at hp
        rw [(gE s).2.1] at ha
        obtain ⟨x, x1, x2⟩ := P.y1 hp ha
        rw [List.append_nil] at x1
        exact ⟨x, by rw [List.append_nil]; exact inA x x1, fin hp x x2⟩
      · have Q0 := q1 v 9 mm.hp Q
        have hp := (nf_endd F.nf I NI mm.hp Q0.endd).2
        refine (P.y3 Q0).imp (fun k e c r => by obtain ⟨e1, c1, r1, a, _⟩ := back s mm.hi e c r; have := k e1 c1 r1; omega) fun ⟨x, x1, x2⟩ => ⟨x, inA x x1, fin hp x x2⟩
    have sil : Qle w i 9 → Qle w p 9 → Dn = [] := fun a b => by
      cases hd : Dn with
      | nil => rfl
      | cons r l =>
        have h3 := (hDn r (by rw [hd]; simp)).1
        rcases htip with h | h
        · subst h; have := (a et ct rt).1; omega
        · subst h; have := (b et ct rt).1; omega
    refine .pair i p m' (by rw [(sid i).cl]; exact cl) (fun j hj h1 h2 => by rw [n] at hj; exact no j hj (only j hj h1 h2)) (fun e c r st => ?_) (ps i p m s1) (ps p i m.symm s2) ⟨fun _ _ x hx => absurd hx (by simp), fun a b => ?_, fun a b => ?_⟩
    · obtain ⟨e0, c0, r0, a, _, _, rr⟩ := back p m.hp e c r
      obtain ⟨⟨ei, ci, ri, sti⟩, ⟨x, x1, x2⟩, hr⟩ := op e0 c0 r0 (by omega)
      obtain ⟨e1, c1, r1, b, _⟩ := fwd i m.hi ei ci ri
      have opt : ∀ x, OpTok w p x → OpTok w' p x := fun x T => ⟨T.b, toE p _ T.to, by rw [(gE p).1]; exact T.ack⟩
      rw [List.append_nil] at x1
      refine ⟨⟨e1, c1, r1, by omega⟩, ⟨x, by rw [List.append_nil]; exact inA x x1, opt x x2⟩, ?_⟩
      rw [rr]
      exact hr.imp id fun ⟨k, y, y1, y2⟩ => ⟨k, y, inA y y1, opt y y2⟩
    · have a0 := q1 i 8 m.hi a
      have b0 := q1 p 8 m.hp b
      rw [sil (a0.mono (by decide)) (b0.mono (by decide)), frp_nil, List.append_nil]
      exact z.z8 a0 b0
    · have a0 := q1 i 7 m.hi a
      have b0 := q1 p 7 m.hp b
      rw [sil (a0.mono (by decide)) (b0.mono (by decide)), frp_nil, List.append_nil]
      exact z.z7 a0 b0
/-- A CALL in fair weather -/
theorem FairW.call (A0 : Law w L x k) (A3 : Law w' L3 z (k + 1)) (C : CallW w L x w' L3 z) (E : CallE w w') (F : FairW w L x) (hs : z.spilt = x.spilt) : FairW w' L3 z := by
  obtain ⟨A, F, Wx0, rt⟩ := F
  obtain ⟨Dn, d1, d2, d3⟩ := C.wx hs Wx0
  cases E with
  | tab n N G D rowF rowB lis q =>
    have hDn : Dn = [] := by
      have : w.D ++ Dn = w.D ++ [] := by rw [← d1, D]; simp
      exact List.append_cancel_left this
    subst hDn
    rw [frp_nil, List.append_nil] at d3
    refine ⟨A, F.tab A0.inv A0.ni A3.ni C.keep n N G D C.now rowF rowB lis, d3, fun s e c hs' r st => ?_⟩
    rw [n] at hs'
    obtain ⟨e0, r0, _⟩ := rowF s hs' e c r
    exact rt s e0 c hs' r0 st
  | row t R X =>
    refine ⟨_, F.rowX A0.inv A3.inv A0.ni A3.ni C.keep C.now d1 d2 R X, d3, fun s e c hs' r st => ?_⟩
    rw [R.n] at hs'
    by_cases hst : s = t
    · subst hst
      obtain ⟨et, ct, ct', r1, r1', _, stE, PK, _⟩ := X.row
      have := (r.inj r1').2; subst this
      rcases rt s et ct hs' r1 (by omega) with q | ⟨q1, q2⟩
      · exact .inl (by rw [PK.ret]; exact q)
      · exact .inr ⟨by rw [PK.tm q1]; exact q1, by rw [PK.ret]; exact q2⟩
    · exact rt s e c hs' ((R.rows s hs' hst e c).1 r) st
/-- all ends gone: an empty wire -/
theorem FI.gone (F : FI w L A []) (NI : ∀ i, i < w.n → NetI w L i) (h : ∀ j, j < w.n → (L j).gone = true) : A = [] ∧ ∀ j, j < w.n → NoRow w j := by
  have no : ∀ j, j < w.n → NoRow w j := fun j hj e c r => by
    have := ((NI j hj).row e c r).1
    rw [h j hj] at this; cases this
  refine ⟨?_, no⟩
  cases F.ph with
  | idle _ a _ => exact a
  | syn i hi only e c row => exact absurd row (no i hi e c)
  | pre i p hi hp pe cl only e c row => exact absurd row (no i hi e c)
  | pair i p m cl only op s1 s2 z => exact (z.z7 ((no i m.hi).qle 7) ((no p m.hp).qle 7)).1
/-- CONNECT in fair weather -/
theorem FairW.connect (A0 : Law w L x k) (A3 : Law w' L3 z (k + 1)) (C : CallW w L x w' L3 z) {c : Nat} {rh rp : Int} (B : BornC w w' c rh rp) (F : FairW w L x) (hs : z.spilt = x.spilt) (hl : ∀ h, h < 3 → z.lost h = x.lost h) (gone : ∀ j, j < w.n → (L j).gone = true) {h : Nat} (h3 : h < 3) (hrh : rh = (h : Int) + 1) (hc : c ≠ h) (lis : ∃ sd f, (w.H h).t.at sd = some f ∧ f.kind = 1 ∧ f.lPort = rp) : FairW w' L3 z := by
  obtain ⟨A, F, Wx0, rt⟩ := F
  obtain ⟨hA, no⟩ := F.gone A0.ni gone
  subst hA
  obtain ⟨Dn, d1, d2, d3⟩ := C.wx hs Wx0
  obtain ⟨r, r1, r2, r3, r4⟩ := B.D fun h h3 => by rw [← A3.lost h h3, ← A0.lost h h3]; exact hl h h3
  have hDn : Dn = [r] := List.append_cancel_left (d1.symm.trans r1)
  subst hDn
  obtain ⟨e, c0, row, st, tm, rtr, _, _⟩ := B.row
  have n := B.n
  obtain ⟨f, hf⟩ := bare_frame (rec_one A3.inv (r := r) (by rw [d1]; simp) (by rw [C.now, d2 r (by simp)]; omega) (by rw [r4]; decide) (.inl r4))
  have hfr : frp [r] = [(r, f)] := by unfold frp; simp [hf]
  rw [List.nil_append, hfr] at d3
  obtain ⟨sd, g, g1, g2, g3⟩ := lis
  obtain ⟨sd', g', k1, k2, k3⟩ := B.lis h h3 sd g g1 g2
  have rowsB : ∀ j, j < w'.n → j ≠ w.n → NoRow w' j := fun j hj hjn e c rj => no j (by omega) e c ((B.rows j (by omega) e c).1 rj)
  refine ⟨[(r, f)], ⟨fun v hv => ?_, fun p hp => ?_, fun p hp => absurd hp (by simp), .syn w.n (by omega) rowsB e c0 row st tm rtr (r, f) rfl rfl r4 h h3 (by show r.dst = _; rw [r2, hrh]) (by rw [B.host]; omega) ⟨sd', g', k1, k2, by rw [k3, g3]; exact r3.symm⟩⟩, d3, fun s e1 c1 hs' r' st' => ?_⟩
  · by_cases hvn : v = w.n
    · subst hvn
      intro h4
      have := ((A3.ni w.n hv).row e c0 row).2.1
      omega
    · exact nf_same A0.ni A3.ni C.keep A0.inv F.nf (by omega) (fun j hj e c rj => ⟨e, c, (B.rows j hj e c).1 rj, fun _ => rfl⟩) (fun j hj hno => norow_state A0.ni hj (no j hj)) (show v < w.n by omega)
  · rw [List.mem_singleton.1 hp]
    refine ⟨by rw [d1]; simp, by show w'.now ≤ r.t + 1; rw [C.now, d2 r (by simp)]; omega, by show f ∈ r.frames; rw [hf]; simp, by show r.g.flags / 8 = 0; rw [r4]; decide⟩
  · by_cases hsn : s = w.n
    · subst hsn; have := (r'.inj row).2; subst this; omega
    · exact absurd r' (rowsB s hs' hsn e1 c1)
end
end Go.Proofs.Qxb6500351aGreat
