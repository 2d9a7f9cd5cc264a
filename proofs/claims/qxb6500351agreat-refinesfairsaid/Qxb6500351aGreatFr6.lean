/- FAIR WEATHER, part 6: a frame comes to its host, all cases. No Go in sight. -/
import Derived.Test.Qxb6500351aGreatFr5
set_option linter.unusedVariables false
set_option linter.unusedSimpArgs false
namespace Go.Proofs.Qxb6500351aGreat
open Go.Eng
theorem split_one {α : Type} {A1 A2 : List α} {q p : α} (h : A1 ++ q :: A2 = [p]) : A1 = [] ∧ A2 = [] ∧ q = p := by
  cases A1 with
  | nil => simp at h; exact ⟨rfl, h.2, h.1⟩
  | cons a l => simp at h
section
variable {w w' : W} {L L' : Nat → Ned} {h : Nat} {r : Rc} {Dn : List Rc} {A B A' B' : List Fly}
/-- rows and law stay -/
theorem nf_same (NI : ∀ i, i < w.n → NetI w L i) (NI' : ∀ i, i < w'.n → NetI w' L' i) (keep : Keep w.n L L') (I : Inv w) (nf : ∀ v, v < w.n → Nf L v) (hn : w.n ≤ w'.n) (rows : ∀ j, j < w.n → ∀ e c, w'.row j e c → ∃ e c0, w.row j e c0 ∧ (c.x.st = 4 → c.x.why = c0.x.why)) (rowB : ∀ j, j < w.n → NoRow w' j → (L j).state = 4) {v : Nat} (hv : v < w.n) : Nf L' v := fun h4 => by
  by_cases hr : ∃ e c, w'.row v e c
  · obtain ⟨e, c, rv⟩ := hr
    obtain ⟨_, b2, b3, _⟩ := (NI' v (by omega)).row e c rv
    obtain ⟨e0, c0, r0, hw⟩ := rows v hv e c rv
    rw [b3, hw (by rw [← b2]; exact h4)]
    exact nf_why nf I NI hv r0
  · have hno : NoRow w' v := fun e c rv => hr ⟨e, c, rv⟩
    have g := (NI' v (by omega)).norow hno
    rw [(keep v hv).2 g.1]
    exact nf v hv (rowB v hv hno)
theorem norow_state (NI : ∀ i, i < w.n → NetI w L i) {j : Nat} (hj : j < w.n) (h : NoRow w j) : (L j).state = 4 := ((NI j hj).norow h).2
/-- a bare record is one frame -/
theorem rec_one (I : Inv w) {r : Rc} (hr : r ∈ w.D) (age : w.now - r.t ≤ 4) (hf : r.g.flags / 8 = 0) (h : r.g.flags = 1 ∨ r.g.flags = 3) : r.g.data = [] := by
  cases I.recs r hr age with
  | rst k fl => omega
  | syn a s k ca fl sq da => exact da
  | sa a b s k ca pe fl sq ak da => exact da
  | est a b k n s kk mm v =>
    rcases v.flags with fl | ⟨fl, _⟩ <;> rcases h with h | h <;> rw [h] at fl <;> exact absurd fl (by decide)
theorem one_of (I : Inv w) {p : Fly} {a : Int} (f : FlW w p a) (ha : a ≤ 4) (h : p.1.g.flags = 1 ∨ p.1.g.flags = 3) : p.1.g.data = [] := rec_one I f.d (by have := f.t; omega) f.fl h
/-- NOTHING HAPPENS: a piece of a datagram is laid by, or given up -/
theorem FI.noeff (I : Inv w) (NI : ∀ i, i < w.n → NetI w L i) (NI' : ∀ i, i < w'.n → NetI w' L' i) (keep : Keep w.n L L') (E : NoEff w w') (hD : w'.D = w.D) (now : w'.now = w.now) {A1 A2 : List Fly} {q : Fly} (F : FI w L (A1 ++ q :: A2) B) (hq : q.1.g.data ≠ []) : FI w' L' (A1 ++ A2) B := by
  have hA : ∀ x, x ∈ A1 ++ q :: A2 → x = q ∨ x ∈ A1 ++ A2 := fun x hx => by
    rcases List.mem_append.1 hx with k | k
    · exact .inr (List.mem_append_left _ k)
    · rcases List.mem_cons.1 k with k | k
      · exact .inl k
      · exact .inr (List.mem_append_right _ k)
  have hA' : ∀ x, x ∈ A1 ++ A2 → x ∈ A1 ++ q :: A2 := fun x hx => by
    rcases List.mem_append.1 hx with k | k
    · exact List.mem_append_left _ k
    · exact List.mem_append_right _ (List.mem_cons_of_mem _ k)
  have hqA : q ∈ A1 ++ q :: A2 := List.mem_append_right _ (List.mem_cons_self ..)
  have nA : A1 ++ q :: A2 ≠ [] := by simp
  have hB : ∀ x : Fly, FBare x → x ∈ A1 ++ q :: A2 → x ∈ A1 ++ A2 := fun x b hx => (hA x hx).resolve_left fun k => hq (by rw [← k]; exact b.2)
  have hAB : ∀ x : Fly, FBare x → x ∈ (A1 ++ q :: A2) ++ B → x ∈ (A1 ++ A2) ++ B := fun x b hx => by
    rcases List.mem_append.1 hx with k | k
    · exact List.mem_append_left _ (hB x b k)
    · exact List.mem_append_right _ k
  have rows := E.rows
  have hD' : w'.D = w.D ++ [] := by rw [hD]; simp
  have fin : ∀ s x, FinTok w s x → FinTok w' s x := fun s x T => ⟨T.b, ⟨by rw [E.N]; exact T.to.dst, by rw [E.N]; exact T.to.src, by rw [E.N]; exact T.to.dp, by rw [E.N]; exact T.to.sp⟩, by rw [E.G]; exact T.ack⟩
  have opt : ∀ s x, OpTok w s x → OpTok w' s x := fun s x T => ⟨T.b, ⟨by rw [E.N]; exact T.to.dst, by rw [E.N]; exact T.to.src, by rw [E.N]; exact T.to.dp, by rw [E.N]; exact T.to.sp⟩, by rw [E.G]; exact T.ack⟩
  refine ⟨fun v hv => ?_, fun x hx => (F.fa x (hA' x hx)).ev hD' now, fun x hx => (F.fb x hx).ev hD' now, ?_⟩
  · rw [E.n] at hv
    exact nf_same NI NI' keep I F.nf (by rw [E.n]; exact Nat.le_refl _) (fun j hj e c rj => ⟨e, c, (rows j hj e c).1 rj, fun _ => rfl⟩) (fun j hj hno => norow_state NI hj fun e c rj => hno e c ((rows j hj e c).2 rj)) hv
  cases F.ph with
  | idle no a b => exact absurd a nA
  | syn i hi only e c row st tm rt p a b fl =>
    obtain ⟨_, _, k⟩ := split_one a
    exact absurd (one_of I (F.fa q hqA) (by decide) (by rw [k]; exact .inl fl)) hq
  | pre i p hi hp pe cl only e c row st rt e' c' row' st' rt' tm x wire fl =>
    rcases wire with ⟨a, _⟩ | ⟨a, _⟩
    · obtain ⟨_, _, k⟩ := split_one a
      exact absurd (one_of I (F.fa q hqA) (by decide) (by rw [k]; exact .inr fl)) hq
    · exact absurd a nA
  | pair i p m cl only op s1 s2 z =>
    have q1 : ∀ v k, v < w.n → Qle w' v k → Qle w v k := fun v k hv Q e c rv => Q e c ((rows v hv e c).2 rv)
    have q2 : ∀ v k, v < w.n → Qle w v k → Qle w' v k := fun v k hv Q e c rv => Q e c ((rows v hv e c).1 rv)
    have ps : ∀ s v, w.mut s v → PS w (A1 ++ q :: A2) B s v → PS w' (A1 ++ A2) B s v := fun s v mm P => by
      refine ⟨fun hp ha => ?_, fun k k0 k8 Q => q2 s _ mm.hi (P.y2 k k0 k8 (q1 v k mm.hp Q)), fun Q => ?_⟩
      · rw [E.G] at hp ha
        obtain ⟨x, x1, x2⟩ := P.y1 hp ha
        exact ⟨x, hAB x x2.b x1, fin s x x2⟩
      · refine (P.y3 (q1 v 9 mm.hp Q)).imp (fun k e c rs => k e c ((rows s mm.hi e c).1 rs)) fun ⟨x, x1, x2⟩ => ⟨x, hB x x2.b x1, fin s x x2⟩
    refine .pair i p ⟨by rw [E.n]; exact m.hi, by rw [E.n]; exact m.hp, by rw [E.N]; exact m.ip, by rw [E.N]; exact m.pi⟩ (by rw [E.N]; exact cl) (fun j hj h1 h2 e c rj => ?_) (fun e c rp st => ?_) (ps i p m s1) (ps p i m.symm s2) ⟨fun a b => z.z9 (q1 i 9 m.hi a) (q1 p 9 m.hp b), fun a b => ?_, fun a b => ?_⟩
    · rw [E.n] at hj
      exact only j hj h1 h2 e c ((rows j hj e c).1 rj)
    · obtain ⟨⟨ei, ci, ri, sti⟩, ⟨x, x1, x2⟩, hr⟩ := op e c ((rows p m.hp e c).1 rp) st
      exact ⟨⟨ei, ci, (rows i m.hi ei ci).2 ri, sti⟩, ⟨x, hAB x x2.b x1, opt p x x2⟩, hr.imp id fun ⟨k, y, y1, y2⟩ => ⟨k, y, hB y y2.b y1, opt p y y2⟩⟩
    · obtain ⟨k1, k2⟩ := z.z8 (q1 i 8 m.hi a) (q1 p 8 m.hp b)
      exact ⟨fun x hx => k1 x (hA' x hx), k2⟩
    · exact absurd (z.z7 (q1 i 7 m.hi a) (q1 p 7 m.hp b)).1 nA
/-- A CHILD IS BORN -/
theorem FI.born (I : Inv w) (NI : ∀ i, i < w.n → NetI w L i) (NI' : ∀ i, i < w'.n → NetI w' L' i) (I' : Inv w') (keep : Keep w.n L L') (X : BornX w w' h) (hD : w'.D = w.D ++ Dn) (now : w'.now = w.now) (hDt : ∀ r, r ∈ Dn → r.t = w.now) (lo : (w'.H h).lost = (w.H h).lost) (nf : ∀ v, v < w.n → Nf L v) {i : Nat} (hi : i < w.n) (only : ∀ j, j < w.n → j ≠ i → NoRow w j) {e : En} {c : Conn} (row : w.row i e c) (st : c.x.st = 1) (tm : c.x.timer = 2) (rt : c.x.retries = 0) : FI w' L' [] (frp Dn) := by
  obtain ⟨r', hDn, hfl⟩ := X.D Dn hD lo
  have n := X.e.n
  obtain ⟨p0, p1, p2, ep, cp, rp⟩ := X.p
  have hpi : p0 = i := by
    by_cases k : p0 = i
    · exact k
    · exact absurd rp (only p0 p1 k ep cp)
  subst hpi
  obtain ⟨e', c', row', st', tm', rt'⟩ := X.c
  have hfr : ∀ p, p ∈ frp Dn → FlW w' p 0 := frp_flW hD now hDt (fun r hr => by rw [hDn] at hr; rw [List.mem_singleton.1 hr, hfl]; decide)
  have hr'd : r' ∈ w'.D := by rw [hD, hDn]; simp
  have hr't : r'.t = w.now := hDt r' (by rw [hDn]; simp)
  obtain ⟨f, hf⟩ := bare_frame (rec_one I' hr'd (by rw [now, hr't]; omega) (by rw [hfl]; decide) (.inr hfl))
  have hB : frp Dn = [(r', f)] := by rw [hDn]; unfold frp; simp [hf]
  refine ⟨fun v hv => ?_, fun p hp => absurd hp (by simp), hfr, .pre p0 w.n (by omega) (by omega) p2 ?_ (fun j hj h1 h2 e c rj => only j (by omega) h1 e c ((X.e.rows j (by omega) e c).1 rj)) e c ((X.e.rows p0 hi e c).2 row) st rt e' c' row' st' rt' (by rw [tm, tm']) (r', f) (.inr ⟨rfl, hB, tm⟩) hfl⟩
  · by_cases hvn : v = w.n
    · subst hvn
      intro h4
      have := ((NI' w.n hv).row e' c' row').2.1
      omega
    · exact nf_same NI NI' keep I nf (by omega) (fun j hj e c rj => ⟨e, c, (X.e.rows j hj e c).1 rj, fun _ => rfl⟩) (fun j hj hno => norow_state NI hj fun e c rj => hno e c ((X.e.rows j hj e c).2 rj)) (show v < w.n by omega)
  · obtain ⟨_, _, _, _, _, _, _, _, _, ⟨_, _, q, _⟩, _⟩ := X.e.row
    rw [q]; rfl
end
end Go.Proofs.Qxb6500351aGreat
