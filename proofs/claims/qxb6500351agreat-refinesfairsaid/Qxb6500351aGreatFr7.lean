/- FAIR WEATHER, part 7: a client opens; a frame comes, all cases together. No Go in sight. -/
import Derived.Test.Qxb6500351aGreatFr6
set_option linter.unusedVariables false
set_option linter.unusedSimpArgs false
namespace Go.Proofs.Qxb6500351aGreat
open Go.Eng
theorem Conn.input_open {c : Conn} (st : c.x.st = 1) {s : Seg} (fl : s.flags = 3) (ha : s.ack = seqAdd c.x.iss 1) : ∃ c1 : Conn, c.input s = (c1, [c1.ack]) ∧ c1.x.st = 3 := by
  refine ⟨⟨{ c.opened.x with peerWnd := window s.wnd }, c.opened.s, c.r.reset (seqAdd s.seq 1)⟩, ?_, rfl⟩
  unfold Conn.input
  rw [if_neg (by omega), if_pos st]
  unfold Conn.inSynSent
  rw [if_neg (fun k => k.2 ha), if_neg (by rw [fl]; decide), if_neg (by rw [fl]; decide)]
section
variable {w w' : W} {L L' : Nat → Ned} {h : Nat} {r : Rc} {Dn : List Rc} {A B A' B' : List Fly} {t : Nat} {e0 : En} {c0 : Conn}
/-- THE CLIENT OPENS -/
theorem Come.opens (C : Come w w' L L' h r Dn t e0 c0) (now : w'.now = w.now) (hDt : ∀ r, r ∈ Dn → r.t = w.now) {p : Nat} (hp : p < w.n) (pe : (w.N p).peer = (t : Int)) (clp : (w.N p).client = false) (only : ∀ j, j < w.n → j ≠ t → j ≠ p → NoRow w j) (st : c0.x.st = 1) {e' : En} {c' : Conn} (row' : w.row p e' c') (st' : c'.x.st = 2) (rt' : c'.x.retries = 0) (fl : r.g.flags = 3) (ak : r.g.ack = ((w.G t).iss + 1) % 256) : FI w' L' [] (frp Dn) := by
  have I := C.d.I
  have I' := C.d.I'
  have ev := C.d.ev
  have hpt : p ≠ t := fun k => by
    subst k
    have := (row'.inj C.rt).2
    rw [this] at st'; omega
  have clt : (w.N t).client = true ∧ c0.x.iss = (w.G t).iss := by
    cases I.sta t C.ht e0 c0 C.rt with
    | syn cl pe o => exact ⟨cl, o.iss⟩
    | srv q cl pe o => have := o.st; omega
    | well q mm rel wl => rcases wl.st with k | k; (have := k.1.st; omega); (have := k.1; omega)
    | bad s => omega
  obtain ⟨c1, hin, st1⟩ := Conn.input_open st fl (by rw [ak, clt.2]; rfl)
  obtain ⟨e1, r1⟩ := C.E.row
  rw [hin] at r1
  have r1 : w'.row t e1 c1 := r1
  have rp' : w'.row p e' c' := (C.E.rows p hp hpt e' c').2 row'
  have n' := C.E.n
  obtain ⟨q, mq, relq, hz⟩ : ∃ q, w'.mut t q ∧ Rel c1 (w'.G t) (w'.N t).sent (w'.G q) (w'.N q).sent ∧ True := by
    cases C.rs' C.ht r1 with
    | syn s iss nm => omega
    | srv s iss cl z => omega
    | run q mm s rel => exact ⟨q, mm, rel, trivial⟩
    | fin q mm s => omega
  have pe' : (w'.N p).peer = (t : Int) := by
    rcases ev.pe p hp with k | ⟨k, _⟩
    · rw [k]; exact pe
    · omega
  have clp' : (w'.N p).client = false := by rw [(ev.id p hp).cl]; exact clp
  have hmir' : mir (w'.N p) (w'.N t) := by
    obtain ⟨p0, _, k2, _, k4, _⟩ := I'.kid p (by omega) clp'
    have : p0 = t := by omega
    subst this; exact k4
  have hmir : mir (w.N p) (w.N t) := by
    obtain ⟨p0, _, k2, _, k4, _⟩ := I.kid p hp clp
    have : p0 = t := by omega
    subst this; exact k4
  have hqp : p = q := I'.meet_c mq (by rw [C.client C.ht]; exact clt.1) r1 (by omega) rp' hmir'.symm
  subst hqp
  have zp : w'.G p = Gh.new (w'.G p).iss (w'.G p).b := by
    cases C.rs' hp rp' with
    | syn s iss nm => omega
    | srv s iss cl z => exact z
    | run q mm s => omega
    | fin q mm s => omega
  obtain ⟨R0, pft, fp, pfp, fap⟩ := R_zero I' mq zp
  -- the acknowledgement
  obtain ⟨r', a1, a2, a3, a4⟩ := C.E.all c1.ack (by rw [hin]; simp)
  have hb : SBare r'.g := by rw [a4]; exact (Conn.ack_bare c1).stamp e0
  obtain ⟨f, hf⟩ := bare_frame hb.2
  have tok : OpTok w' p (r', f) := by
    obtain ⟨m1, m2, m3, m4⟩ := hmir
    obtain ⟨t1, t2, t3⟩ := I.tup t C.ht e0 c0 C.rt
    have to : ToS w r' p := ⟨by rw [a3, t2]; exact m2.symm, by rw [a2]; exact m1, by rw [a4]; show e0.rPort = _; rw [t3]; exact m3.symm, by rw [a4]; show e0.lPort = _; rw [t1]; exact m4.symm⟩
    refine ⟨hb, to.ev ev hp, ?_⟩
    show r'.g.ack = _
    have e1' : r'.g.ack = c1.rcvNxt := by rw [a4]; rfl
    rw [e1', relq.rcvNxt, R0]; congr 1; omega
  have nfr : ∀ r', r' ∈ Dn → r'.g.flags / 8 = 0 := fun r' hr' => by
    obtain ⟨g, g1, g2⟩ := C.E.only r' hr'
    rw [hin] at g1
    rw [g2, List.mem_singleton.1 g1]; rfl
  have noP : ∀ k, ¬ Qle w' p k := fun k Q => by have := (Q e' c' rp').1; omega
  have noT : ∀ k, ¬ Qle w' t k := fun k Q => by have := (Q e1 c1 r1).1; omega
  refine ⟨C.nf', fun x hx => absurd hx (by simp), frp_flW C.d.D now hDt nfr, .pair t p mq (by rw [C.client C.ht]; exact clt.1) (fun j hj h1 h2 => ?_) (fun e c rp s => ?_) ⟨fun k => ?_, fun k _ _ Q => absurd Q (noP k), fun Q => absurd Q (noP 9)⟩ ⟨fun k => ?_, fun k _ _ Q => absurd Q (noT k), fun Q => absurd Q (noT 9)⟩ ⟨fun a => absurd a (noT 9), fun a => absurd a (noT 8), fun a => absurd a (noT 7)⟩⟩
  · rw [n'] at hj
    exact C.norow hj (only j hj h1 h2)
  · refine ⟨⟨e1, c1, r1, st1⟩, ⟨(r', f), ?_, tok⟩, .inl ?_⟩
    · exact frp_mem.2 ⟨a1, by show f ∈ r'.frames; rw [hf]; simp⟩
    · rw [(rp.inj rp').2]; exact rt'
  · rw [pfp] at k; cases k
  · rw [pft] at k; cases k
end
section
variable {w w' : W} {L L3 : Nat → Ned} {x z : Wrld} {k : Int} {d : Nat} {raw : List Int} {A1 A2 B : List Fly} {q : Fly}
/-- A FRAME COMES IN in fair weather -/
theorem FI.come (A0 : Law w L x k) (A3 : Law w' L3 z (k + 1)) (o : Out w w' d ((w.H d).inputH raw) ((w.H d).inputF raw) 3) (e : Eff w w' d) (keep : Keep w.n L L3) (hsome : (w.H d).segIn raw = some (q.1.src, q.1.g) → Disp w w' d q.1) (hno : (w.H d).segIn raw = none → NoEff w w') (h12 : (w.H d).segIn raw = none ∨ (w.H d).segIn raw = some (q.1.src, q.1.g)) (lo : ∀ h, h < 3 → z.lost h = x.lost h) (F : FI w L (A1 ++ q :: A2) B) (hq : q.2 = raw) (d3 : d < 3) (h0 : raw.getD 0 0 = (d : Int) + 1) :
    ∃ Dn, w'.D = w.D ++ Dn ∧ (w.H d).inputF raw = (Dn.map Rc.frames).flatten ∧ FI w' L3 (A1 ++ A2) (B ++ frp Dn) := by
  have I := A0.inv
  have sy := A0.syn
  obtain ⟨Dn, d1, d2, dlen, dcr, d5⟩ := o.D
  have now := o.now
  have hqA : q ∈ A1 ++ q :: A2 := List.mem_append_right _ (List.mem_cons_self ..)
  have fq := F.fa q hqA
  have hr := fq.d
  have hage : w.now - q.1.t ≤ 4 := by have := fq.t; omega
  have hdst : q.1.dst = (d : Int) + 1 := by have := (Rc.head fq.f).1; rw [hq] at this; omega
  have hlw : (w'.H d).lost = (w.H d).lost := by rw [← A3.lost d d3, ← A0.lost d d3]; exact lo d d3
  have HI := I.hi d d3
  have gok := I.gok q.1 hr
  have fl8 : q.1.g.flags / 8 * 8 = 0 := by rw [fq.fl]; rfl
  -- a record of one frame comes whole
  have single : q.1.g.data = [] → (w.H d).segIn raw = some (q.1.src, q.1.g) := fun hd => by
    obtain ⟨f, hf⟩ := bare_frame hd
    have e1 : raw = f := by have := fq.f; rw [hf, hq] at this; exact List.mem_singleton.1 this
    rw [e1]
    exact (take_one HI.pa (by rw [hdst]; exact HI.addr.symm) gok (by show (segEnc q.1.src q.1.dst q.1.g).length ≤ 16; rw [segEnc_len, hd]; decide) hf).2
  rcases h12 with hs | hs
  · have E := hno hs
    have hF : (w.H d).inputF raw = [] := by unfold Hst.inputF; rw [hs]
    have hDn : Dn = [] := by
      cases hD : Dn with
      | nil => rfl
      | cons a l =>
        exfalso
        rw [hF, hD] at d2
        have : a.frames ≠ [] := by
          by_cases hl : a.dgr.pay.length ≤ 16
          · obtain ⟨f, g1, _⟩ := Rc.frames_one hl
            rw [g1]; simp
          · rw [Rc.frames_two (by omega)]; simp
        rw [List.map_cons, List.flatten_cons] at d2
        exact this (List.append_eq_nil_iff.1 d2.symm).1
    subst hDn
    refine ⟨[], d1, d2, ?_⟩
    have := FI.noeff I A0.ni A3.ni keep E (by rw [d1]; simp) now F (fun hd => by rw [single hd] at hs; cases hs)
    rw [frp_nil, List.append_nil]; exact this
  · have D := hsome hs
    have dst : DStep w w' d q.1 Dn := ⟨I, sy, A3.inv, hr, hage, hdst, Eff.ev I e, D, d1, hlw⟩
    refine ⟨Dn, d1, d2, ?_⟩
    have come : ∀ {t : Nat} {e0 : En} {c0 : Conn}, t < w.n → w.row t e0 c0 → ToS w q.1 t → Come w w' L L3 d q.1 Dn t e0 c0 := fun {t e0 c0} ht rt to => by
      obtain ⟨hh, tu⟩ := I.hits ht rt to hdst
      exact ⟨dst, A0.ni, A3.ni, keep, ht, rt, hh, tu, fl8, F.nf, dst.hitE ht rt hh tu⟩
    cases F.ph with
    | idle no a b => exact absurd a (by simp)
    | syn i hi only e0 c0 row st tm rt p a b fl h h3 hd nh lis =>
      obtain ⟨a1, a2, a3⟩ := split_one a
      subst a1 a2 a3 b
      have hdh : h = d := by omega
      subst hdh
      have X := D.born (fun sd e1 he hk => by
        obtain ⟨j, j1, j2, j3, j4, _, rj⟩ := I.end_of h3 he hk
        by_cases hji : j = i
        · subst hji; exact nh j2
        · exact only j j1 hji _ _ rj) fl lis
      have := FI.born I A0.ni A3.ni A3.inv keep X d1 now d5 hlw F.nf hi only row st tm rt
      simpa using this
    | pre i p hi hp pe cl only e0 c0 row st rt e' c' row' st' rt' tm y wire fl =>
      rcases wire with ⟨a, b, _⟩ | ⟨a, _⟩
      · obtain ⟨a1, a2, a3⟩ := split_one a
        subst a1 a2 a3 b
        have to : ToS w q.1 i ∧ q.1.g.ack = ((w.G i).iss + 1) % 256 := by
          cases I.recs q.1 hr hage with
          | rst k f => rw [fl] at f; exact absurd f (by decide)
          | syn a s k ca f => rw [fl] at f; exact absurd f (by decide)
          | est a b k n s kk mm v =>
            rcases v.flags with f | ⟨f, _⟩ <;> rw [fl] at f <;> exact absurd f (by decide)
          | sa a b s k ca pb f sq ak da t pr =>
            obtain ⟨ea, ca', ra⟩ := pres_row pr
            have hap : a = p := by
              by_cases k1 : a = p
              · exact k1
              · exfalso
                by_cases k2 : a = i
                · subst k2
                  cases I.sta a s.hi _ _ row with
                  | syn cl' => rw [ca] at cl'; cases cl'
                  | srv q' cl' pe' o => have := o.st; omega
                  | well q' mm rel wl => rcases wl.st with k | k; (have := k.1.st; omega); (have := k.1; omega)
                  | bad s4 => omega
                · exact only a s.hi k2 k1 _ _ ra
            subst hap
            have hbi : b = i := by omega
            subst hbi
            obtain ⟨p0, _, k2, _, k4, _⟩ := I.kid a hp cl
            have : p0 = b := by omega
            subst this
            exact ⟨ToS.of I s k4, ak⟩
        have := (come hi row to.1).opens now d5 hp pe cl only st row' st' rt' fl to.2
        simpa using this
      · exact absurd a (by simp)
    | pair i p m cl only op s1 s2 z =>
      obtain ⟨s, t, stt, mst, to, from_⟩ := frame_from I m cl only hr hage fq.fl
      have nA : (A1 ++ q :: A2) ++ B ≠ [] := by simp
      have rowt : ∃ e c, w.row t e c := by
        rcases stt with ⟨_, k⟩ | ⟨_, k⟩
        · rw [k]; exact rows_of s1 z nA
        · rw [k]; exact rows_of s2 z.symm nA
      obtain ⟨e0, c0, rt⟩ := rowt
      exact (come mst.hp rt to).pair now d5 rfl F m cl only op s1 s2 z stt from_
end
end Go.Proofs.Qxb6500351aGreat
