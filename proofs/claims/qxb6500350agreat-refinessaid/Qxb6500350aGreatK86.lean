/- PLAIN LAW: THE TOWER'S LAW (6): ONE STEP PLAYED ON BOTH SIDES. -/
import Derived.Test.Qxb6500350aGreatK85
import Derived.Test.Qxb6500350aGreatT19
set_option linter.unusedVariables false
set_option linter.unusedSimpArgs false
set_option maxHeartbeats 4000000
namespace Go.Proofs.Qxb6500350aGreat
open Go.Eng Go
def looksB (k : Int) : Bool := !(decide (k = 1) || (decide (k = 2) || (decide (k = 3) || (decide (k = 4) || (decide (k = 5) || (decide (k = 6) || (decide (k = 7) || (decide (k = 8) || (decide (k = 9) || (decide (k = 11) || decide (k = 12)))))))))))
theorem looks_ok {n : Nat} {k : Int} : m19 n k = some (looksB k) := by
  unfold m19 looksB
  by_cases h1 : k = 1
  · subst h1; rfl
  by_cases h2 : k = 2
  · subst h2; rfl
  by_cases h3 : k = 3
  · subst h3; rfl
  by_cases h4 : k = 4
  · subst h4; rfl
  by_cases h5 : k = 5
  · subst h5; rfl
  by_cases h6 : k = 6
  · subst h6; rfl
  by_cases h7 : k = 7
  · subst h7; rfl
  by_cases h8 : k = 8
  · subst h8; rfl
  by_cases h9 : k = 9
  · subst h9; rfl
  by_cases h11 : k = 11
  · subst h11; rfl
  rw [decide_eq_false h1, decide_eq_false h2, decide_eq_false h3, decide_eq_false h4, decide_eq_false h5, decide_eq_false h6, decide_eq_false h7, decide_eq_false h8, decide_eq_false h9, decide_eq_false h11]
  by_cases h12 : k = 12
  · subst h12; rfl
  rw [decide_eq_false h12]; rfl
/-- how a step ended -/
inductive Pl (kind : Int) (m0 : RepoM) (d0 : Dev) (A0 : Int → Ob) (root : Int) (ord0 : List Int) (K0 : Int → CI) (bs0 : List Brn) (same full : Bool) (d : Dev) (g : Graph) (s : Store) (r : RepoR) (t : Trees) (x : Index) (m : RepoM) : Prop
  | full (h1 : same = true) (h2 : full = true) (h3 : Fell m0 d0 A0 root ord0 K0 bs0 t s d g x) (h4 : Wk r m0.work) (h5 : (kind = 12 ∧ nfr A0 = 0) ∨ (kind ≠ 12 ∧ (nfr A0 : Int) < m0.room - m.room)) (h6 : looksB kind = false)
  | went (h1 : same = true) (h2 : full = false) (h3 : MI m) (h4 : ∃ A' root' ord' K' bs', Sys t s d g x r A' root' ord' K' bs' m ∧ ((d = d0 ∧ A' = A0 ∧ histOf m = histOf m0) ∨ Done d0 A0 d A' root') ∧ ((kind ≠ 12 ∧ (nfr A0 : Int) - nfr A' ≤ m0.room - m.room) ∨ (kind = 12 ∧ m.room = nfr A')) ∧ (looksB kind = true → A' = A0 ∧ m = m0))
theorem comV_5 {m : RepoM} {msg : Str} : (comV m msg).2.1 ≠ 5 := by
  unfold comV
  split
  · show (19 : Int) ≠ 5; decide
  split
  · show (21 : Int) ≠ 5; decide
  split
  · show (23 : Int) ≠ 5; decide
  split
  · show (8 : Int) ≠ 5; decide
  · show (0 : Int) ≠ 5; decide
section
variable {n : Nat} {t0 : Trees} {s0 : Store} {d0 : Dev} {g0 : Graph} {x0 : Index} {r0 : RepoR} {e0 : Engine} {A0 : Int → Ob} {root : Int} {ord0 : List Int} {K0 : Int → CI} {bs0 : List Brn} {m0 : RepoM}
theorem play_ok {o : Op_} {b : Below} {exact : Bool} (hn : 100010 ≤ n) (h : Sys t0 s0 d0 g0 x0 r0 A0 root ord0 K0 bs0 m0) (hm : MI m0) (hlax : m0.lax = true) (hrm : -1152921504606846976 ≤ m0.room ∧ m0.room ≤ 48) (hnx : m0.nxt < 1152921504606846976) (hd0 : d0.at_.length ≤ 1000)
    (hr : m0.room ≤ nfr A0) (hex : exact = true → (nfr A0 : Int) = m0.room) :
    Ok (m18 n d0 e0 g0 s0 r0 t0 x0 m0 b o exact) (fun q => Bnd m0 q.2.2.2.2.2.2.2.2.2 ∧ Pl o.kind m0 d0 A0 root ord0 K0 bs0 q.1 q.2.1 q.2.2.1 q.2.2.2.2.1 q.2.2.2.2.2.1 q.2.2.2.2.2.2.1 q.2.2.2.2.2.2.2.1 q.2.2.2.2.2.2.2.2.1 q.2.2.2.2.2.2.2.2.2) := by
  have obs : ∀ {v : Bool}, v = true → o.kind ≠ 12 → Bnd m0 m0 ∧ Pl o.kind m0 d0 A0 root ord0 K0 bs0 v false d0 g0 s0 r0 t0 x0 m0 := fun hv hk =>
    ⟨.refl hlax, .went hv rfl hm ⟨A0, root, ord0, K0, bs0, h, .inl ⟨rfl, rfl, rfl⟩, .inl ⟨hk, by omega⟩, fun _ => ⟨rfl, rfl⟩⟩⟩
  have cmd : ∀ {t : Trees} {s : Store} {d : Dev} {g : Graph} {x : Index} {r : RepoR} {m : RepoM} {e : Int} {same full : Bool}, Out m0 d0 A0 root ord0 K0 bs0 t s d g x r m e → Bnd m0 m → o.kind ≠ 12 → looksB o.kind = false → same = true → full = decide (e = 5) →
      Bnd m0 m ∧ Pl o.kind m0 d0 A0 root ord0 K0 bs0 same full d g s r t x m := by
    intro t s d g x r m e same full ho hb hk hl h1 h2
    refine ⟨hb, ?_⟩
    cases ho with
    | full k1 k2 k3 k4 => exact .full h1 (by rw [h2]; exact decide_eq_true k1) k2 k3 (.inr ⟨hk, k4⟩) hl
    | went k1 k2 k3 =>
      obtain ⟨A', root', ord', K', bs', k4, k5, k6⟩ := k3
      refine .went h1 (by rw [h2]; exact decide_eq_false k1) k2 ⟨A', root', ord', K', bs', k4, ?_, .inl ⟨hk, k6⟩, fun hh => by rw [hl] at hh; cases hh⟩
      rcases k5 with ⟨a, b, _, c⟩ | k5
      · exact .inl ⟨a, b, c⟩
      · exact .inr k5
  have n12 : ∀ {k : Int}, o.kind = k → k ≠ 12 → o.kind ≠ 12 := fun e hk => by rw [e]; exact hk
  have lk : ∀ {k : Int}, o.kind = k → looksB k = false → looksB o.kind = false := fun e hk => by rw [e]; exact hk
  have or5 : ∀ {a b : Int}, a = b ∨ a = 5 → (decide (a = b) || decide (a = 5)) = true := fun hh => by simpa using hh
  have and2 : ∀ {a b c d : Int}, a = b → c = d → (decide (a = b) && decide (c = d)) = true := fun h1 h2 => by simp [h1, h2]
  unfold m18
  refine Ok_ite (fun k => ?_) (fun k1 => ?_)
  · obtain ⟨qm, e1, qr, e2, h1, h2, h3⟩ := write_c (p := o.s) (data := o.t) hn h hm hlax
    have hne : qr.1 ≠ 5 := by
      obtain ⟨q, e3, e4⟩ := write_w (p := o.s) (data := o.t) (show 100000 ≤ n by omega) h.wk hm.wk
      rw [e2] at e3
      obtain rfl := Option.some.inj e3
      rcases e4 with ⟨_, e5⟩ | ⟨_, e5, _⟩
      · rw [e5]; exact wrErr_5
      · rw [e5]; decide
    exact Ok_ob2 (Ok.of e2 (Ok_ob2 (Ok.of e1 (Ok.some' (cmd h3 h2 (n12 k (by decide)) (lk k rfl) (decide_eq_true h1) (decide_eq_false hne).symm)))))
  refine Ok_ite (fun k => ?_) (fun k2 => ?_)
  · obtain ⟨qm, e1, qr, e2, h1, h2, h3⟩ := remove_c (p := o.s) hn h hm hlax
    have hne : qr.1 ≠ 5 := by
      obtain ⟨q, e3, e4⟩ := remove_w (p := o.s) (show 100000 ≤ n by omega) h.wk hm.wk.num hm.wk.srt
      rw [e2] at e3
      obtain rfl := Option.some.inj e3
      rcases e4 with ⟨_, e5⟩ | ⟨_, e5, _⟩
      · rw [e5]; show (13 : Int) ≠ 5; decide
      · rw [e5]; decide
    exact Ok_ob2 (Ok.of e2 (Ok_ob2 (Ok.of e1 (Ok.some' (cmd h3 h2 (n12 k (by decide)) (lk k rfl) (decide_eq_true h1) (decide_eq_false hne).symm)))))
  refine Ok_ite (fun k => ?_) (fun k3 => ?_)
  · obtain ⟨qm, e1, qr, e2, h1, h2, h3⟩ := add_c (p := o.s) hn h hm hlax hrm hd0
    exact Ok_ob6 (Ok.of e2 (Ok_ob2 (Ok.of e1 (Ok.some' (cmd h3 h2 (n12 k (by decide)) (lk k rfl) (or5 h1) rfl)))))
  refine Ok_ite (fun k => ?_) (fun k4 => ?_)
  · obtain ⟨qm, e1, qr, e2, h1, h2, h3⟩ := rm_c (p := o.s) hn h hm hlax hrm hd0
    exact Ok_ob6 (Ok.of e2 (Ok_ob2 (Ok.of e1 (Ok.some' (cmd h3 h2 (n12 k (by decide)) (lk k rfl) (or5 h1) rfl)))))
  refine Ok_ite (fun k => ?_) (fun k5 => ?_)
  · obtain ⟨qm, e1, qr, e2, h1, h2, h3⟩ := commit_c (msg := o.s) hn h hm hlax hrm hnx hd0
    have hqm : qm.2.1 ≠ 5 := by
      have := commit_m (msg := o.s) hn hm hlax hrm hnx
      rw [e1] at this
      rw [Option.some.inj this]; exact comV_5
    refine Ok_ob7 (Ok.of e2 (Ok_ob3 (Ok.of e1 (Ok_ite (fun h5 => Ok.some' (cmd h3 h2 (n12 k (by decide)) (lk k rfl) ?_ (decide_eq_true h5).symm)) (fun h5 => Ok.some' (cmd h3 h2 (n12 k (by decide)) (lk k rfl) ?_ (decide_eq_false h5).symm))))))
    · rcases h1 with h1 | h1
      · exact decide_eq_true h1.2
      · exact absurd (h1.2.symm.trans h5) hqm
    · rcases h1 with h1 | h1
      · exact absurd h1.1 h5
      · exact and2 h1.1 h1.2
  refine Ok_ite (fun k => ?_) (fun k6 => ?_)
  · obtain ⟨qm, e1, qr, e2, h1, h2, h3⟩ := branch_c (name := o.s) hn h hm hlax hrm hd0
    exact Ok_ob6 (Ok.of e2 (Ok_ob2 (Ok.of e1 (Ok.some' (cmd h3 h2 (n12 k (by decide)) (lk k rfl) (or5 h1) rfl)))))
  refine Ok_ite (fun k => ?_) (fun k7 => ?_)
  · obtain ⟨qm, e1, qr, e2, h1, h2, h3⟩ := delete_c (name := o.s) hn h hm hlax hrm hd0
    exact Ok_ob6 (Ok.of e2 (Ok_ob2 (Ok.of e1 (Ok.some' (cmd h3 h2 (n12 k (by decide)) (lk k rfl) (or5 h1) rfl)))))
  refine Ok_ite (fun k => ?_) (fun k8 => ?_)
  · obtain ⟨qm, e1, qr, e2, h1, h2, h3⟩ := switch_c (name := o.s) hn h hm hlax hrm hd0
    exact Ok_ob7 (Ok.of e2 (Ok_ob2 (Ok.of e1 (Ok.some' (cmd h3 h2 (n12 k (by decide)) (lk k rfl) (or5 h1) rfl)))))
  refine Ok_ite (fun k => ?_) (fun k9 => ?_)
  · obtain ⟨qm, e1, qr, e2, h1, h2, h3⟩ := checkout_c (q := o.a) hn h hm hlax hrm hd0
    exact Ok_ob7 (Ok.of e2 (Ok_ob2 (Ok.of e1 (Ok.some' (cmd h3 h2 (n12 k (by decide)) (lk k rfl) (or5 h1) rfl)))))
  refine Ok_ite (fun k => ?_) (fun k11 => ?_)
  · obtain ⟨qm, e1, qr, e2, h1, h2, h3⟩ := merge_c (e0 := e0) (name := o.s) hn h hm hlax hrm hnx hd0
    refine Ok_ob9 (Ok.of e2 (Ok_ob3 (Ok.of e1 (Ok_ite (fun h5 => Ok.some' (cmd h3 h2 (n12 k (by decide)) (lk k rfl) ?_ (decide_eq_true h5).symm)) (fun h5 => Ok.some' (cmd h3 h2 (n12 k (by decide)) (lk k rfl) ?_ (decide_eq_false h5).symm))))))
    · rcases h1 with h1 | h1
      · exact decide_eq_true h1.2
      · exact absurd h5 h1.2.2
    · rcases h1 with h1 | h1
      · exact absurd h1.1 h5
      · exact and2 h1.1 h1.2.1
  refine Ok_ite (fun k => ?_) (fun k12 => ?_)
  · obtain ⟨qm, e1, qr, e2, h2, h3⟩ := collect_c hn h hm hlax hd0
    refine Ok_ob7 (Ok.of e2 (Ok_ob3 (Ok.of e1 ?_)))
    rcases h3 with ⟨p1, p2, p3, p4⟩ | ⟨p1, p2, p3, p4, A', root', ord', K', bs', p5, p6, p7⟩
    · exact Ok_ite (fun _ => Ok.some' ⟨h2, .full (decide_eq_true p1) rfl p3 h.wk (.inl ⟨k, p4⟩) (lk k rfl)⟩) (fun hh => absurd p2 hh)
    · exact Ok_ite (fun hh => absurd (p2.symm.trans hh) (by decide)) (fun _ => Ok.some' ⟨h2, .went (and2 p1 (p2.trans p3.symm)) rfl p4 ⟨A', root', ord', K', bs', p5, .inr p6, .inr ⟨k, p7⟩, fun hh => by rw [lk k rfl] at hh; cases hh⟩⟩)
  refine Ok_ite (fun k => Ok_ob2 ((al_diff hn h hm hm).mono (fun v hv => Ok.some' (obs (hv.2 rfl) k12)))) (fun _ => ?_)
  refine Ok_ite (fun k => Ok_ob1 ((al_show hn h hm hm _).mono (fun v hv => Ok.some' (obs (hv.2 rfl) k12)))) (fun _ => ?_)
  refine Ok_ite (fun k => Ok_ob1 ((al_log hn h hm hm).mono (fun v hv => Ok.some' (obs (hv.2 rfl) k12)))) (fun _ => ?_)
  refine Ok_ite (fun k => Ok_ob1 ((al_status hn h hm hm).mono (fun v hv => Ok.some' (obs (hv.2 rfl) k12)))) (fun _ => ?_)
  refine Ok_ite (fun k => Ok_ob1 ((al_seqs hn h hm hm).mono (fun v hv => Ok.some' (obs (hv.2 rfl) k12)))) (fun _ => ?_)
  refine Ok_ite (fun k => Ok_ob1 ((al_next h).mono (fun v hv => Ok.some' (obs (hv.2 rfl) k12)))) (fun _ => ?_)
  refine Ok_ite (fun k => Ok_ob1 ((al_head h).mono (fun v hv => Ok.some' (obs (hv.2 rfl) k12)))) (fun _ => ?_)
  refine Ok_ite (fun k => Ok_ob1 ((al_branches hn h hm hm).mono (fun v hv => Ok.some' (obs (hv.2 rfl) k12)))) (fun _ => ?_)
  refine Ok_ite (fun k => Ok_ob1 ((al_index hn h hm hm).mono (fun v hv => Ok.some' (obs (hv.2 rfl) k12)))) (fun _ => ?_)
  refine Ok_ite (fun k => Ok_ob1 ((al_work hn h hm hm).mono (fun v hv => Ok.some' (obs (hv.2 rfl) k12)))) (fun _ => ?_)
  refine Ok_ite (fun k => Ok_cl1 roomIs_ok (Ok_cond (fun hh => nomatch hh) (fun _ => Ok_ob1 ((roomHolds_ok h).mono (fun v hv => Ok.some' (obs (hv.2 ?_) k12)))))) (fun _ => ?_)
  · split
    · exact hex ‹_›
    · exact hr
  refine Ok_ite (fun k => Ok_cl1 (soundAll_ok hn h hm) (Ok.some' (obs rfl k12))) (fun _ => Ok.some' (obs rfl k12))
end
end Go.Proofs.Qxb6500350aGreat
