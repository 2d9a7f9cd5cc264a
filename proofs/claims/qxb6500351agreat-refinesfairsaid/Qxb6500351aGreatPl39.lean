/- THE PLAIN LAW of the abstract network, part 2: a look at a host, a look at the world. No Go in sight. -/
import Derived.Test.Qxb6500351aGreatPl38
set_option linter.unusedVariables false
set_option linter.unusedSimpArgs false
namespace Go.Proofs.Qxb6500351aGreat
open Go.Eng
theorem NetP.congr {w : W} {L L' : Nat → Ned} {del : Nat → Int} {i : Nat} (h : NetP w L del i) (e : L' i = L i) (s : ∀ j, j < w.n → (L j).peer = (w.N j).peer → (L' j).peer = (w.N j).peer) : NetP w L' del i := by
  refine ⟨h.c.congr e, fun a c r => ?_, fun ha => by rw [e]; exact h.norow ha⟩
  obtain ⟨k1, k2, k3, k4, k5⟩ := h.row a c r
  rw [e]
  refine ⟨k1, k2, k3, k4, ?_⟩
  rcases k5 with k5 | ⟨o1, o2, o3, o4, o5⟩
  · exact .inl k5
  · exact .inr ⟨o1, o2, o3, fun j hj hji => s j hj (o4 j hj hji), o5⟩
/-- a child is seen first -/
theorem see_born {w : W} (I : Inv w) {L : Nat → Ned} {del : Nat → Int} {m : Nat} (hm : w.n = m + 1) {h : Nat} (h3 : h < 3) {e : En} {c : Conn} (r : w.row m e c) (hst : c.x.st = 2) (hw : c.x.why = 0) (hp : e.parent ≠ 0) (hr : e.ready = false) (hh : (w.N m).host = (h : Int)) {p : Nat} (hpm : p < m) (hN : w.N m = kidN h e p) (hcl : (w.N p).client = true) (hmir : mir (w.N m) (w.N p)) {ep : En} {cp : Conn} (rp : w.row p ep cp) (hdel : del h ≠ 0) (all : ∀ j, j < m → NetC w L j) :
    nSee (LL L m) del h e c.info = some (LL (upA L m (kidN h e p)) w.n) ∧ NetI w (upA L m (kidN h e p)) m := by
  have hi : m < w.n := by omega
  have hpn : p < w.n := by omega
  have hsd : e.sd = (w.N m).sd := by
    obtain ⟨_, _, _, _, k⟩ := Tb.at_row r.at_
    exact k
  have hfind : nFind (LL L m) (h : Int) e.sd = -1 := by
    refine LL_nofind (fun j hj ⟨a, b⟩ => ?_)
    have cj := (all j hj).id
    have := I.uniq j m (by omega) hi (by rw [← cj.host, a, hh]) (by rw [← cj.sd, b, hsd])
    omega
  have hkc : (w.N m).client = false := by rw [hN]; rfl
  have hports := I.ports m hi
  have hk3 := (hports.2.2.2 hkc)
  have erh : e.rHost = (w.N m).rHost := by rw [hN]; rfl
  have elp : e.lPort = (w.N m).lPort := by rw [hN]; rfl
  have erp : e.rPort = (w.N m).rPort := by rw [hN]; rfl
  have hlat : nLatest (LL L m) (e.rHost - 1) e.rPort ((h : Int) + 1) e.lPort true = (p : Int) := by
    refine LL_latest hpm ?_ (fun k hk ha => ?_)
    · rw [at_iff]
      have cp := (all p hpm).id
      rw [cp.host, cp.lp, cp.rh, cp.rp, cp.cl, erh, elp, erp]
      exact ⟨by have := hmir.1; omega, hmir.2.2.2.symm, by have := hmir.2.1; omega, hmir.2.2.1.symm, hcl⟩
    · rw [at_iff] at ha
      have ck := (all k hk).id
      rw [ck.host, ck.lp, ck.rh, ck.rp, ck.cl, erh, elp, erp] at ha
      obtain ⟨b1, b2, b3, b4, b5⟩ := ha
      exact I.row_last hpn (by omega) rp ⟨by have := hmir.1; omega, hmir.2.2.2.symm.trans b2.symm, by have := hmir.2.1; omega, hmir.2.2.1.symm.trans b4.symm⟩
  have srv : Ong c 2 (w.G m).iss ∧ w.G m = Gh.new (w.G m).iss (w.G m).b := by
    cases I.sta m hi e c r with
    | syn cl pe o => have := o.st; omega
    | srv p cl pe o t pa nx nc wo z zs => exact ⟨o, z⟩
    | well p' mm rel wl =>
      rcases wl.st with k | k
      · have := k.1.st; omega
      · have := k.1; omega
    | bad st => omega
  obtain ⟨o, z⟩ := srv
  have hr0 : (w.G m).r = 0 ∧ (w.G m).pf = false ∧ (w.G m).rd = 0 := by rw [z]; exact ⟨rfl, rfl, rfl⟩
  constructor
  · unfold nSee
    rw [if_neg (by omega), hfind, if_pos (by omega), hlat]
    have hdel' : ¬ del (h : Int).toNat = 0 := by rw [Int.toNat_natCast]; exact hdel
    have hcs : c.info.state = 2 := hst
    rw [if_neg (by
      rintro (k | k | k | k | k | k)
      · omega
      · omega
      · exact hdel' k
      · exact k hcs
      · exact hp k
      · rw [hr] at k; cases k), if_neg (by omega), LL_app, hm]
    rfl
  · have ev : upA L m (kidN h e p) m = kidN h e p := upA_at ..
    refine ⟨⟨?_, ?_, ?_, ?_, ?_, ?_, ?_, ?_, ?_⟩, ?_, ?_, fun e' c' r' => ?_, fun ha => absurd r (ha e c)⟩
    · rw [ev, ← hN]; exact SameId.refl _
    · rw [ev, ← hN]
    · rw [ev, ← hN]
    · rw [ev, ← hN]; exact fun _ => rfl
    · rw [ev, hr0.2.2]; rfl
    · rw [ev]; exact fun p' _ => List.nil_prefix
    · rw [ev, hr0.1]; exact ⟨Int.le_refl _, Int.le_refl _⟩
    · rw [ev]; exact fun k => absurd (show false = true from k) (by decide)
    · rw [ev]; exact fun k => absurd (show (2 : Int) = 4 from k) (by decide)
    · rw [ev, ← hN]
    · rw [ev, ← hN]
    · obtain ⟨q1, q2⟩ := r'.inj r
      rw [ev, q2]
      exact ⟨rfl, hst.symm, hw.symm, fun _ => ⟨hr0.1.symm, hr0.2.1.symm⟩⟩
/-! ### a look at one host -/
def lookRows (del : Nat → Int) (H : Hst) (h : Int) : List Int → List Ned → Option (List Ned)
  | [], l => some l
  | sd :: sds, l => if (H.ent sd).kind = 2 then (match nSee l del h (H.ent sd) (H.infoC sd) with
      | some l' => lookRows del H h sds l'
      | none => none) else lookRows del H h sds l
theorem lookRows_app (del : Nat → Int) (H : Hst) (h : Int) : ∀ (a b : List Int) (l l' : List Ned), lookRows del H h a l = some l' → lookRows del H h (a ++ b) l = lookRows del H h b l'
  | [], b, l, l', e => by
    simp only [lookRows, Option.some.injEq] at e; subst e; rfl
  | sd :: a, b, l, l', e => by
    simp only [lookRows, List.cons_append] at e ⊢
    by_cases hk : (H.ent sd).kind = 2
    · rw [if_pos hk] at e ⊢
      cases hs : nSee l del h (H.ent sd) (H.infoC sd) with
      | none => rw [hs] at e; cases e
      | some l1 =>
        rw [hs] at e
        exact lookRows_app del H h a b l1 l' e
    · rw [if_neg hk] at e ⊢
      exact lookRows_app del H h a b l l' e
/-- the state of a look -/
structure Lk1 (w : W) (L : Nat → Ned) (m : Nat) : Prop where
  c : ∀ j, j < m → NetC w L j
theorem info_of {w : W} {h : Nat} {sd : Int} {e : En} (he : (w.H h).t.at sd = some e) (hk : e.kind = 2) : (w.H h).infoC sd = ((w.H h).c e.slot.toNat).info := by
  unfold Hst.infoC
  rw [(ent_of he).1, if_pos hk]
theorem look_rows {w : W} (I : Inv w) {del : Nat → Int} {h : Nat} (h3 : h < 3) {m : Nat} (hmn : m ≤ w.n) (hmm : ∀ i p, i < m → w.mut i p → p < m) : ∀ (l : List Int) (L : Nat → Ned), l.Nodup → (∀ sd, sd ∈ l → ∃ e, (w.H h).t.at sd = some e ∧ (e.kind = 2 → ∃ i, i < m ∧ (w.N i).host = (h : Int) ∧ (w.N i).sd = sd)) → (∀ j, j < m → NetC w L j) → (∀ j, j < m → (w.N j).host = (h : Int) → (w.N j).sd ∈ l → NetP w L del j) →
    ∃ L', lookRows del (w.H h) h l (LL L m) = some (LL L' m) ∧ (∀ j, j < m → NetC w L' j) ∧ (∀ j, ¬ (j < m ∧ (w.N j).host = (h : Int) ∧ (w.N j).sd ∈ l ∧ ∃ e c, w.row j e c) → L' j = L j) ∧ (∀ j, j < m → (w.N j).host = (h : Int) → (w.N j).sd ∈ l → (∃ e c, w.row j e c) → NetI w L' j)
  | [], L, _, _, hc, _ => ⟨L, rfl, hc, fun _ _ => rfl, fun j _ _ hm => absurd hm (by simp)⟩
  | sd :: l, L, hn, hp, hc, hP => by
    obtain ⟨hnl, hn'⟩ := List.nodup_cons.1 hn
    obtain ⟨e, he, hk2⟩ := hp sd (List.mem_cons_self ..)
    obtain ⟨en1, er1⟩ := ent_of he
    have hsd : ∀ x, x ∈ l → x ≠ sd := fun x hx h => by subst h; exact hnl hx
    by_cases hk : e.kind = 2
    · obtain ⟨i, i1, i2, i3⟩ := hk2 hk
      have hin : i < w.n := by omega
      have hw : w.host i = w.H h := by unfold W.host; rw [i2]; simp
      have r : w.row i e ((w.H h).c e.slot.toNat) := ⟨by rw [hw, i3]; exact he, hk, by rw [hw]⟩
      have Pi := hP i i1 i2 (by rw [i3]; exact List.mem_cons_self ..)
      obtain ⟨s1, s2⟩ := see_one I hmn i1 (fun p mm => hmm i p i1 mm) r i2 Pi hc
      have e0 : ∀ j, j ≠ i → upA L i (vis w L i ((w.H h).c e.slot.toNat)) j = L j := fun j hj => upA_ne _ _ hj
      have hc1 : ∀ j, j < m → NetC w (upA L i (vis w L i ((w.H h).c e.slot.toNat))) j := fun j hj => by
        by_cases hji : j = i
        · subst hji; exact s2.c
        · exact (hc j hj).congr (e0 j hji)
      have sy1 : ∀ j, j < w.n → (L j).peer = (w.N j).peer → (upA L i (vis w L i ((w.H h).c e.slot.toNat)) j).peer = (w.N j).peer := fun j hj hs => by
        by_cases hji : j = i
        · subst hji; exact s2.peer
        · rw [e0 j hji]; exact hs
      have ni : ∀ j, (w.N j).sd ∈ l → (w.N j).host = (h : Int) → j ≠ i := fun j hj hh hji => by
        subst hji; exact hsd _ hj i3
      obtain ⟨L', t1, t2, t3, t4⟩ := look_rows I h3 hmn hmm l (upA L i (vis w L i ((w.H h).c e.slot.toNat))) hn' (fun x hx => hp x (List.mem_cons_of_mem _ hx)) hc1 (fun j hj hh hm => (hP j hj hh (List.mem_cons_of_mem _ hm)).congr (e0 j (ni j hm hh)) sy1)
      have ei : L' i = upA L i (vis w L i ((w.H h).c e.slot.toNat)) i := t3 i (fun k => hsd _ k.2.2.1 i3)
      refine ⟨L', ?_, t2, fun j hj => ?_, fun j hj hh hm hr => ?_⟩
      · simp only [lookRows]
        rw [en1, if_pos hk, info_of he hk, s1]
        exact t1
      · have hji : j ≠ i := fun k => by subst k; exact hj ⟨i1, i2, by rw [i3]; exact List.mem_cons_self .., e, _, r⟩
        rw [t3 j (fun k => hj ⟨k.1, k.2.1, List.mem_cons_of_mem _ k.2.2.1, k.2.2.2⟩)]
        exact e0 j hji
      · rcases List.mem_cons.1 hm with k | k
        · have hji : j = i := I.uniq j i (by omega) hin (hh.trans i2.symm) (k.trans i3.symm)
          subst hji
          exact s2.congr ei
        · exact t4 j hj hh k hr
    · obtain ⟨L', t1, t2, t3, t4⟩ := look_rows I h3 hmn hmm l L hn' (fun x hx => hp x (List.mem_cons_of_mem _ hx)) hc (fun j hj hh hm => hP j hj hh (List.mem_cons_of_mem _ hm))
      have nr : ∀ j, (w.N j).host = (h : Int) → (w.N j).sd = sd → ¬ ∃ e c, w.row j e c := fun j hh hs ⟨e', c', r'⟩ => by
        have hw : w.host j = w.H h := by unfold W.host; rw [hh]; simp
        have := r'.at_
        rw [hw, hs, he] at this
        cases this; exact hk r'.kind
      refine ⟨L', ?_, t2, fun j hj => ?_, fun j hj hh hm hr => ?_⟩
      · simp only [lookRows]
        rw [en1, if_neg hk]
        exact t1
      · exact t3 j (fun k => hj ⟨k.1, k.2.1, List.mem_cons_of_mem _ k.2.2.1, k.2.2.2⟩)
      · rcases List.mem_cons.1 hm with k | k
        · exact absurd hr (nr j hh k)
        · exact t4 j hj hh k hr
/-! ### who is listed no more -/
def goneP (h : Int) (list : List Int) (x : Ned) : Bool := decide (x.host = h) && !x.gone && !(list.contains x.sd)
def goneStep (h : Int) (list : List Int) (l : List Ned) (k : Nat) : List Ned := match l[k]? with
  | some x => if goneP h list x = true then nUnlisted l k else l
  | none => l
def goneTo (h : Int) (list : List Int) (l : List Ned) : Nat → List Ned
  | 0 => l
  | k + 1 => goneStep h list (goneTo h list l k) k
def goneL (h : Int) (list : List Int) (L : Nat → Ned) (k : Nat) : Nat → Ned := fun j => if j < k ∧ goneP h list (L j) = true then { L j with gone := true } else L j
theorem gone_to {h : Int} {list : List Int} {L : Nat → Ned} {m : Nat} (hs : ∀ j, j < m → goneP h list (L j) = true → (L j).state = 4) : ∀ k, k ≤ m → goneTo h list (LL L m) k = LL (goneL h list L k) m ∧ (∀ j, j < k → goneP h list (goneL h list L j j) = true → nUnl (LL (goneL h list L j) m) j = true)
  | 0, _ => by
    refine ⟨?_, fun j hj => by omega⟩
    have : goneL h list L 0 = L := by funext j; unfold goneL; rw [if_neg (by omega)]
    rw [this]; rfl
  | k + 1, hk => by
    obtain ⟨ih, ih2⟩ := gone_to hs k (by omega)
    have hkm : k < m := by omega
    have hLk : goneL h list L k k = L k := by unfold goneL; rw [if_neg (by omega)]
    have hunl : goneP h list (L k) = true → nUnl (LL (goneL h list L k) m) k = true := fun hg => by
      unfold nUnl
      rw [Int.toNat_natCast, LL_get hkm, hLk]
      have := hs k hkm hg
      simp [this]
    refine ⟨?_, fun j hj hg => ?_⟩
    · simp only [goneTo]
      rw [ih]
      unfold goneStep
      rw [LL_get hkm]
      dsimp only
      rw [hLk]
      by_cases hg : goneP h list (L k) = true
      · rw [if_pos hg]
        unfold nUnlisted
        rw [if_pos (hunl hg)]
        unfold nUpd
        rw [Int.toNat_natCast, LL_get hkm]
        dsimp only
        rw [hLk, LL_set, if_pos (by omega)]
        congr 1
        funext j
        unfold upA goneL
        by_cases hj : j = k
        · subst hj; rw [if_pos rfl, if_pos ⟨by omega, hg⟩]
        · rw [if_neg hj]
          by_cases hx : j < k ∧ goneP h list (L j) = true
          · rw [if_pos hx, if_pos ⟨by omega, hx.2⟩]
          · rw [if_neg hx, if_neg (fun k' => hx ⟨by omega, k'.2⟩)]
      · rw [if_neg hg]
        congr 1
        funext j
        unfold goneL
        by_cases hx : j < k ∧ goneP h list (L j) = true
        · rw [if_pos hx, if_pos ⟨by omega, hx.2⟩]
        · rw [if_neg hx, if_neg]
          intro k'
          by_cases hj : j = k
          · subst hj; exact hg k'.2
          · exact hx ⟨by omega, k'.2⟩
    · by_cases hjk : j = k
      · subst hjk; rw [hLk] at hg; exact hunl hg
      · exact ih2 j (by omega) hg
end Go.Proofs.Qxb6500351aGreat
