/- PLAIN LAW: THE TOWER'S LAW (7): THE WALK. -/
import Derived.Test.Qxb6500350aGreatK86
import Derived.Test.Qxb6500350aGreatT7
set_option linter.unusedVariables false
set_option linter.unusedSimpArgs false
set_option maxHeartbeats 4000000
namespace Go.Proofs.Qxb6500350aGreat
open Go.Eng Go
/-- the first model -/
def M0 : RepoM := { nodes := [], nxt := 1, refs := [], head := { name := [109, 97, 105, 110], seq := 0, merge := 0 }, index := [], work := [], room := 46, lax := true }
theorem M0_mi : MI M0 := by
  have hl : Law [] := ⟨by simp, by simp, by simp, by simp, .nil, .nil⟩
  have hno : ∀ {α : Type} {P : α → Prop}, ∀ y, y ∈ ([] : List α) → P y := fun y hy => by cases hy
  exact ⟨⟨by show (0 : Nat) ≤ 40; omega, .nil, hno, hno⟩, hno, hno, by show (1 : Int) ≤ 1; omega, by show (0 : Nat) ≤ 4; omega, hno, .inl ⟨by show ([109, 97, 105, 110] : Str) ≠ []; decide, by show goodN [109, 97, 105, 110] = true; decide, rfl⟩, .inl rfl, fun h => absurd rfl h, fun _ _ => rfl, hl, hno, hl, hno⟩
theorem zero_sup : blkOf (List.replicate 9280 (0 : UInt8)) 0 = supB AF 0 := by
  have h1 : blkOf (List.replicate 9280 (0 : UInt8)) 0 = List.replicate 64 0 := by
    unfold blkOf
    rw [show ((0 : Int).toNat * 64) = 0 from rfl, List.drop_zero, List.take_replicate]; rfl
  have h2 : supB AF 0 = List.replicate 64 0 := by decide
  rw [h1, h2]
theorem Agr.rfl {m : RepoM} : Agr m m := ⟨.refl _, .refl _, .refl _, .refl _, .refl _, .refl _⟩
/-- the mark of exactness behind a step -/
def exN (o : Op_) (full exact : Bool) : Bool := cond (!(looksB o.kind)) ((decide (o.kind = 12)) && (!full)) exact
section
variable {n : Nat} {i : Int} {t : Trees} {s : Store} {d : Dev} {g : Graph} {x : Index} {r : RepoR} {e : Engine} {A : Int → Ob} {root : Int} {ord : List Int} {K : Int → CI} {bs : List Brn} {m mb : RepoM} {b : Below} {exact : Bool}
theorem Run.holds (h : Run i d s t g x r m mb exact A root ord K bs) : m20 n s m b exact = some true := by
  obtain ⟨v, h1, h2⟩ := roomHolds_ok (n := n) (m' := m) (b := b) (exact := exact) h.sys
  rw [h1]
  congr 1
  refine h2.2 ?_
  split
  · exact h.ex ‹_›
  · exact h.rm
theorem Run.alike (hn : 100010 ≤ n) (h : Run i d s t g x r m mb exact A root ord K bs) : Ok (m14 n d e g s r t x m b exact) (fun q => q.1 = true) := by
  refine (alike_ok hn h.sys h.mi h.mi).mono (fun q hq => hq.2 ⟨.rfl, ?_⟩)
  split
  · exact h.ex ‹_›
  · exact h.rm
/-- a step played leads to the state again -/
theorem Pl.run {o : Op_} {same full : Bool} {d' : Dev} {g' : Graph} {s' : Store} {r' : RepoR} {t' : Trees} {x' : Index} {m' : RepoM} (h : Run i d s t g x r m mb exact A root ord K bs) (hb : Bnd m m') (hi : 0 ≤ i)
    (p : Pl o.kind m (Dev.at0 d.blk) A root ord K bs same full d' g' s' r' t' x' m') :
    ∃ A' root' ord' K' bs', Run (i + 1) d' s' t' g' x' r' (cond full m m') m (exN o full exact) A' root' ord' K' bs' := by
  have hlo := h.lo
  have hnx := h.nx
  have hbl := hb.lo
  have hbn := hb.nx
  have hgm := h.sys.mark.gr
  have hrm := h.rm
  cases p with
  | full h1 h2 h3 h4 h5 h6 =>
    subst h2
    have hex : exN o true exact = false := by unfold exN; rw [h6]; simp
    rw [hex]
    obtain ⟨hgr, hxf, hsp⟩ := h3
    have hbase : d'.base = d.blk := hsp.1
    refine ⟨A, root, ord, K, bs, ⟨hgr, hxf, h4⟩, h.mi, h.lax, h.mi, h.lax, h.rm, (fun hh => nomatch hh), ⟨?_, ?_⟩, ⟨?_, ?_⟩, .inr ⟨A, root, ord, K, bs, t, s, Dev.at0 d.blk, g, hgm, hbase.symm, h.rm, .inl ⟨rfl, rfl, by rw [hbase]; exact hsp⟩⟩⟩
    · show _ ≤ m.room; omega
    · omega
    · show m.nxt ≤ _; omega
    · omega
  | went h1 h2 h3 h4 =>
    subst h2
    obtain ⟨A', root', ord', K', bs', k1, k2, k3, k4⟩ := h4
    refine ⟨A', root', ord', K', bs', k1, h3, hb.lax, h.mi, h.lax, ?_, ?_, ⟨?_, ?_⟩, ⟨?_, ?_⟩, .inr ⟨A, root, ord, K, bs, t, s, Dev.at0 d.blk, g, hgm, ?_, h.rm, ?_⟩⟩
    · show m'.room ≤ _
      rcases k3 with ⟨_, k3⟩ | ⟨_, k3⟩ <;> omega
    · intro hh
      show _ = m'.room
      unfold exN at hh
      cases hl : looksB o.kind with
      | true =>
        rw [hl] at hh
        obtain ⟨e1, e2⟩ := k4 hl
        rw [e1, e2]; exact h.ex hh
      | false =>
        rw [hl] at hh
        have hh : (decide (o.kind = 12) && !false) = true := hh
        have h12 : o.kind = 12 := by simpa using hh
        rcases k3 with ⟨k3, _⟩ | ⟨_, k3⟩
        · exact absurd h12 k3
        · exact k3.symm
    · show _ ≤ m'.room; omega
    · omega
    · show m'.nxt ≤ _; omega
    · omega
    · rcases k2 with ⟨e1, _, _⟩ | k2
      · rw [e1]; rfl
      · exact k2.1.symm
    · rcases k2 with ⟨e1, e2, e3⟩ | k2
      · refine .inl ⟨e2, e3, ?_⟩
        rw [e1]
        exact ⟨rfl, [], rfl, by simp, fun w hw => (by cases hw)⟩
      · have hbase : d'.base = d.blk := k2.1
        exact .inr (by rw [hbase]; exact k2)
/-- what the walk asks behind a step -/
theorem Pl.asks {o : Op_} {same full : Bool} {d' : Dev} {g' : Graph} {s' : Store} {r' : RepoR} {t' : Trees} {x' : Index} {m' : RepoM} (p : Pl o.kind m (Dev.at0 d.blk) A root ord K bs same full d' g' s' r' t' x' m') :
    same = true ∧ ∃ f : Nat, m16 n s' b = some (f : Int) ∧ f ≤ 48 ∧ (full = true → f = nfr A ∧ ((o.kind = 12 ∧ nfr A = 0) ∨ (o.kind ≠ 12 ∧ (nfr A : Int) < m.room - m'.room))) ∧ (full = false → o.kind ≠ 12 → (nfr A : Int) - f ≤ m.room - m'.room) := by
  cases p with
  | full h1 h2 h3 h4 h5 h6 =>
    refine ⟨h1, nfr A, ?_, nfr_le A, fun _ => ⟨rfl, h5⟩, (fun hh => by rw [h2] at hh; cases hh)⟩
    show (some s'.nfree : Option Int) = _
    rw [h3.gr.lt.st.nf]
  | went h1 h2 h3 h4 =>
    obtain ⟨A', root', ord', K', bs', k1, k2, k3, k4⟩ := h4
    refine ⟨h1, nfr A', free_s k1, nfr_le A', (fun hh => by rw [h2] at hh; cases hh), fun _ hk => ?_⟩
    rcases k3 with ⟨_, k3⟩ | ⟨k3, _⟩
    · exact k3
    · exact absurd k3 hk
theorem m15_ok (hn : 100010 ≤ n) (h : d.Wf) : m15 n d b = some (Dev.at0 d.blk) := by
  refine Ok.eq ?_
  unfold m15
  exact Ok_cl1 (mark_ok (by omega) h) (Ok.some' rfl)
/-- THE WALK NEVER PARTS -/
theorem walk_ok {script : List Op_} {steady quiet : Bool} (hn : 4398047511104 ≤ n) : Ok (m7 n script steady quiet) (fun q => q.1 = -1) := by
  unfold m7
  have hground : Ok (m9 n) (fun q => ∃ A' root', Run 0 q.2.1 q.2.2.1 q.2.2.2.1 q.2.2.2.2.1 q.2.2.2.2.2.1 q.2.2.2.2.2.2.2 M0 M0 false A' root' [] (fun _ => ⟨0, 0, [], [], []⟩) [] ∧ q.2.1.at_.length = 3) := by
    unfold m9
    refine Ok_cl1 newDev_ok (Ok_ob7 ((newopen_ok (m := M0) (by omega) List.length_replicate zero_sup rfl).mono (fun q hq => Ok_nm (Ok.some' ?_))))
    obtain ⟨A', root', k1, k2, k3, k4⟩ := hq
    have hbase : q.2.2.2.2.2.2.base = List.replicate 9280 0 := k2.1
    refine ⟨A', root', ⟨k1, M0_mi, rfl, M0_mi, rfl, by show (46 : Int) ≤ _; omega, (fun hh => nomatch hh), ⟨by show _ ≤ (46 : Int); omega, by show _ ≤ (46 : Int); omega⟩, ⟨by show (1 : Int) ≤ _; omega, by show (1 : Int) ≤ _; omega⟩, .inl ⟨⟨by rw [hbase]; exact zero_sup, by rw [hbase]; exact k2, k3⟩, rfl, rfl, by show (46 : Int) ≤ _; omega, by show (46 : Int) ≤ _; omega⟩⟩, k3⟩
  refine Ok_ob8 (hground.mono (fun q hq => Ok_nm ?_))
  obtain ⟨b1, d1, s1, t1, g1, x1, e1, r1⟩ := q
  obtain ⟨A1, root1, hrun, hst⟩ := hq
  dsimp only at hrun hst ⊢
  refine Ok_cl1 (a0 := { M0 with lax := false }) rfl ?_
  have h11 : m11 n { M0 with lax := false } = some M0 := by
    refine Ok.eq ?_
    unfold m11
    exact Ok_nm (Ok.some' rfl)
  refine Ok_cl1 h11 (Ok_cl1 (clone_ok (by omega) M0_mi) (Ok_cl1 (a0 := (d1.at_.length : Int)) rfl (Ok_ite (fun hh => by omega) (fun _ => Ok_flow ?_))))
  refine Ok.mono (P := fun f => ∃ e2, f = .nx e2) ?_ ?_
  · refine Ok_iteN (fun _ => Ok_ob2 ((hrun.alike (by omega)).mono (fun q hq => ?_))) (fun _ => Ok.some' ⟨_, rfl⟩)
    rw [hq]
    exact Ok_cond (fun hh => nomatch hh) (fun _ => Ok_cl1 (a0 := (d1.at_.length : Int)) rfl (Ok_ite (fun hh => absurd rfl hh) (fun _ => Ok.some' ⟨_, rfl⟩)))
  rintro _ ⟨e2, rfl⟩
  show Ok (flow _ _ _) _
  refine Ok_flow ?_
  unfold m7_w1
  refine Ok_it12 (fun (m mb : RepoM) (d : Dev) (e : Engine) (g : Graph) (t : Trees) (s : Store) (r : RepoR) (x : Index) (exact : Bool) (c : Int) (b : Below) => 0 ≤ c ∧ c ≤ 4398046511104 ∧ ∃ A root ord K bs, Run c d s t g x r m mb exact A root ord K bs)
    (fun _ _ _ _ _ _ _ _ _ _ (c : Int) _ => (4398046511104 - c).toNat) ?_ n M0 M0 d1 e2 g1 t1 s1 r1 x1 false 0 _ ⟨by omega, by omega, A1, root1, _, _, _, hrun⟩ (by show (4398046511104 - (0 : Int)).toNat < n; omega)
  clear hrun hst hground h11
  rintro Q lp m mb d e g t s r x exact c b hQ ⟨c0, c1, A, root, ord, K, bs, h⟩ ih
  refine Ok_ite2 (fun hlt hlt2 => Ok_ix c0 hlt (fun o ho => Ok_nm ?_)) (fun _ => Ok.some' (hQ _ ?_))
  rotate_left
  · refine Ok_un12 ?_
    exact Ok_cond (fun _ => Ok.some' rfl) (fun _ => Ok.some' rfl)
  have hgr := h.sys.gr
  have hnf := nfr_le A
  have hwr := hgr.lt.wr
  have hrm := h.rm
  have hlo := h.lo
  have hnx := h.nx
  have hwc : wi (c + 1) = c + 1 := wi_e (by omega) (by omega)
  refine Ok_ite (fun hk => ?_) (fun hk => ?_)
  · -- a step that is no fault
    refine Ok_cl1 (m15_ok (by omega) hgr.lt.gd.toWf) (Ok_cl1 (clone_ok (by omega) h.mi) (Ok_cl1 (free_s h.sys) (Ok_cl1 (a0 := m.room) rfl ?_)))
    refine Ok_ob10 ((play_ok (o := o) (b := b) (e0 := e) (exact := exact) (by omega) h.sys.mark h.mi h.lax (by omega) (by omega) (by show (0 : Nat) ≤ 1000; omega) h.rm h.ex).mono (fun q hq => ?_))
    obtain ⟨same, full, d', e', g', s', r', t', x', m'⟩ := q
    obtain ⟨hb, hp⟩ := hq
    dsimp only at hb hp ⊢
    obtain ⟨A', root', ord', K', bs', hrun⟩ := hp.run h hb c0
    obtain ⟨rfl, f, hf, hf48, hfull, hwent⟩ := hp.asks (n := n) (b := b)
    have hbl := hb.lo
    have hbh := hb.hi
    have hwp : wi (m.room - m'.room) = m.room - m'.room := wi_e (by omega) (by omega)
    have hwf : wi ((nfr A : Int) - f) = (nfr A : Int) - f := wi_e (by omega) (by omega)
    refine Ok_cl1 (a0 := (d'.at_.length : Int)) rfl (Ok_cond (fun hh => nomatch hh) (fun _ => Ok_cl1 (a0 := m'.room) rfl ?_))
    rw [hwp]
    have hpaid : cond (decide (o.kind = 12)) (some (1 : Int)) (some (m.room - m'.room)) = some (if o.kind = 12 then 1 else m.room - m'.room) := by
      by_cases h12 : o.kind = 12
      · rw [decide_eq_true h12, if_pos h12]; rfl
      · rw [decide_eq_false h12, if_neg h12]; rfl
    refine Ok_cl1 hpaid (Ok_cl1 hf (Ok_flow ?_))
    rw [hwf]
    refine Ok.mono (P := fun f => f = .nx (cond full m m')) ?_ ?_
    · cases full with
      | true =>
        obtain ⟨f1, f2⟩ := hfull rfl
        refine Ok_cond (fun _ => Ok_ite (fun hh => ?_) (fun _ => Ok_ite (fun hh => by omega) (fun _ => Ok_cl1 (clone_ok (by omega) h.mi) (Ok.some' rfl)))) (fun hh => nomatch hh)
        exfalso
        rcases f2 with ⟨k1, k2⟩ | ⟨k1, k2⟩
        · rw [if_pos k1] at hh; omega
        · rw [if_neg k1] at hh; omega
      | false =>
        refine Ok_cond (fun hh => nomatch hh) (fun _ => Ok_ite2 (fun k1 k2 => ?_) (fun _ => Ok.some' rfl))
        exfalso
        rw [if_neg k1] at k2
        have := hwent rfl k1
        omega
    rintro _ rfl
    show Ok (ob1 _ _) _
    have hexn : cond (!(looksB o.kind)) (some ((decide (o.kind = 12)) && (!full))) (some exact) = some (exN o full exact) := by
      unfold exN
      cases looksB o.kind <;> rfl
    refine Ok_cl1 looks_ok (Ok_cl1 hexn (Ok_cl1 hrun.holds (Ok_cond (fun hh => nomatch hh) (fun _ => ?_))))
    have next : ∀ e3, Ok (lp (cond full m m') m d' e3 g' t' s' r' x' (exN o full exact) (wi (c + 1)) b) Q := fun e3 => ih _ _ _ _ _ _ _ _ _ _ _ _ ⟨by omega, by omega, A', root', ord', K', bs', by rw [hwc]; exact hrun⟩ (by omega)
    refine Ok_iteN (fun _ => Ok_ob2 ((hrun.alike (by omega)).mono (fun q hq => ?_))) (fun _ => next _)
    rw [hq]
    exact Ok_cond (fun hh => nomatch hh) (fun _ => Ok_cl1 (a0 := (d'.at_.length : Int)) rfl (Ok_ite (fun hh => absurd rfl hh) (fun _ => next _)))
  · -- a cut
    refine Ok_iteN (fun _ => ?_) (fun _ => ih _ _ _ _ _ _ _ _ _ _ _ _ ⟨by omega, by omega, A, root, ord, K, bs, by rw [hwc]; exact ⟨h.sys, h.mi, h.lax, h.mib, h.laxb, h.rm, h.ex, by omega, by omega, h.past⟩⟩ (by omega))
    refine Ok_cl1 (a0 := (d.at_.length : Int)) rfl (Ok_nm ?_)
    obtain ⟨q, hq0, A', root', ord', K', bs', hc⟩ := after_ok (n := n) (b := b) (k := o.a) (by omega) h
    obtain ⟨b', d', s', t', g', x', e', r'⟩ := q
    dsimp only at hc
    refine Ok_cl8 hq0 (Ok_nm (Ok_cl1 (a0 := (d'.at_.length : Int)) rfl ?_))
    have hroot : (b'.rooted && decide (¬ ((d'.at_.length : Int) = 0))) = false := by
      rcases hc.kind with ⟨_, l, rfl⟩ | ⟨h1, _⟩
      · have : decide (¬ (((Dev.at0 l).at_.length : Int) = 0)) = false := decide_eq_false (fun hh => hh rfl)
        rw [this, Bool.and_false]
      · rw [h1]; rfl
    have hnew : ((!b'.rooted) && decide (¬ ((d'.at_.length : Int) = 3))) = false := by
      rcases hc.kind with ⟨h1, _⟩ | ⟨_, h2, _⟩
      · rw [h1]; rfl
      · have : decide (¬ ((d'.at_.length : Int) = 3)) = false := decide_eq_false (fun hh => hh (by rw [h2.2.2]; rfl))
        rw [this, Bool.and_false]
    rw [hroot, hnew]
    refine Ok_cond (fun hh => nomatch hh) (fun _ => Ok_cond (fun hh => nomatch hh) (fun _ => Ok_cl1 (crash_ok (by omega) h.mib) (Ok_cl1 (crash_ok (by omega) h.mi) ?_)))
    have hnone : ∀ e3, Ok (m14 n d' e3 g' s' r' t' x' (crash mb) b' false) (fun q => o.a < d.at_.length ∨ o.a ≤ 0 → q.1 = true) := by
      intro e3
      by_cases hk1 : o.a < d.at_.length ∨ o.a ≤ 0
      · obtain ⟨k1, k2⟩ := hc.old hk1
        exact (alike_ok (by omega) k1 h.mib.crash h.mib.crash).mono (fun q hq _ => hq.2 ⟨.rfl, k2⟩)
      · obtain ⟨k1, _⟩ := hc.new (by omega)
        exact (alike_ok (by omega) k1 h.mi.crash h.mib.crash).mono (fun q hq hh => absurd hh hk1)
    have hall : ∀ e3, Ok (m14 n d' e3 g' s' r' t' x' (crash m) b' exact) (fun q => ((d.at_.length : Int) ≤ o.a → q.1 = true) ∧ (q.1 = true → Sys t' s' d' g' x' r' A' root' ord' K' bs' (crash m) ∧ m.room ≤ nfr A' ∧ (exact = true → (nfr A' : Int) = m.room))) := by
      intro e3
      by_cases hk1 : (d.at_.length : Int) ≤ o.a
      · obtain ⟨k1, k2, k3⟩ := hc.new hk1
        refine (alike_ok (by omega) k1 h.mi.crash h.mi.crash).mono (fun q hq => ⟨fun _ => hq.2 ⟨.rfl, ?_⟩, fun _ => ⟨k1, k2, k3⟩⟩)
        split
        · exact k3 ‹_›
        · exact k2
      · obtain ⟨k1, k2⟩ := hc.old (by omega)
        refine (alike_ok (by omega) k1 h.mib.crash h.mi.crash).mono (fun q hq => ⟨fun hh => absurd hh hk1, fun hh => ?_⟩)
        obtain ⟨a, hr⟩ := hq.1 hh
        refine ⟨k1.agr a, ?_, fun hex => ?_⟩
        · split at hr
          · have hr : (nfr A' : Int) = m.room := hr
            omega
          · exact hr
        · rw [if_pos hex] at hr; exact hr
    refine Ok_ob2 ((hnone _).mono (fun q1 hq1 => Ok_ob2 ((hall _).mono (fun q2 hq2 => Ok_cl1 (a0 := (d'.at_.length : Int)) rfl (Ok_ite (fun hh => absurd rfl hh) (fun _ => ?_))))))
    obtain ⟨v1, e3⟩ := q1
    obtain ⟨v2, e4⟩ := q2
    dsimp only at hq1 hq2 ⊢
    have h1 : ((!v1) && (!v2)) = false := by
      by_cases hk1 : (d.at_.length : Int) ≤ o.a
      · rw [hq2.1 hk1]; simp
      · rw [hq1 (by omega)]; simp
    have h2 : ((decide (o.a ≤ 0) || decide (o.a < (d.at_.length : Int))) && (!v1)) = false := by
      by_cases hk1 : o.a < d.at_.length ∨ o.a ≤ 0
      · rw [hq1 hk1]; simp
      · have a1 : decide (o.a ≤ 0) = false := decide_eq_false (by omega)
        have a2 : decide (o.a < (d.at_.length : Int)) = false := decide_eq_false (by omega)
        rw [a1, a2]; rfl
    have h3 : (decide ((d.at_.length : Int) ≤ o.a) && (!v2)) = false := by
      by_cases hk1 : (d.at_.length : Int) ≤ o.a
      · rw [hq2.1 hk1]; simp
      · rw [decide_eq_false hk1]; rfl
    rw [h1, h2, h3]
    refine Ok_cond (fun hh => nomatch hh) (fun _ => Ok_cond (fun hh => nomatch hh) (fun _ => Ok_cond (fun hh => nomatch hh) (fun _ => ?_)))
    -- the model that goes on
    obtain ⟨m1, hm1, hmi1, hrun⟩ : ∃ m1, (cond v2 (some (crash m)) (some (crash mb))) = some m1 ∧ MI m1 ∧ Run (c + 1) d' s' t' g' x' r' m1 m1 (exact && v2) A' root' ord' K' bs' := by
      cases v2 with
      | true =>
        obtain ⟨k1, k2, k3⟩ := hq2.2 rfl
        exact ⟨_, rfl, h.mi.crash, hc.run (.inl ⟨rfl, h.mi, h.lax, by omega, by omega⟩) k1 k2 (fun hh => k3 (by rwa [Bool.and_true] at hh))⟩
      | false =>
        have hk1 : ¬ (d.at_.length : Int) ≤ o.a := fun hh => by have := hq2.1 hh; cases this
        obtain ⟨k1, k2⟩ := hc.old (by omega)
        exact ⟨_, rfl, h.mib.crash, hc.run (.inr ⟨rfl, h.mib, h.laxb, by omega, by omega⟩) k1 k2 (fun hh => by rw [Bool.and_false] at hh; cases hh)⟩
    have next : ∀ e3 b3, Ok (lp m1 m1 d' e3 g' t' s' r' x' (exact && v2) (wi (c + 1)) b3) Q := fun e3 b3 => ih _ _ _ _ _ _ _ _ _ _ _ _ ⟨by omega, by omega, A', root', ord', K', bs', by rw [hwc]; exact hrun⟩ (by omega)
    refine Ok_cl1 hm1 (Ok_cl1 (clone_ok (by omega) hmi1) (Ok_cond (fun _ => Ok_cl8 hq0 (Ok_nm (next _ _))) (fun _ => next _ _)))
end
end Go.Proofs.Qxb6500350aGreat
