/- THE PLAIN LAW of the abstract network: what the law sees, it may see. No Go in sight. -/
import Derived.Test.Qxb6500351aGreatPl37
import Derived.Test.Qxb6500351aGreatRp5
set_option linter.unusedVariables false
set_option linter.unusedSimpArgs false
namespace Go.Proofs.Qxb6500351aGreat
open Go.Eng
/-! ### lists as functions -/
def LL (L : Nat → Ned) (n : Nat) : List Ned := (List.range n).map L
theorem LL_len (L : Nat → Ned) (n : Nat) : (LL L n).length = n := by simp [LL]
theorem LL_get {L : Nat → Ned} {n i : Nat} (h : i < n) : (LL L n)[i]? = some (L i) := by simp [LL, h]
theorem LL_at {L : Nat → Ned} {n i : Nat} (h : i < (LL L n).length) : (LL L n)[i] = L i := by simp [LL]
theorem LL_set (L : Nat → Ned) (n i : Nat) (x : Ned) : (LL L n).set i x = LL (upA L i x) n := by
  apply List.ext_getElem
  · simp [LL]
  · intro j h1 h2
    rw [List.getElem_set]
    simp only [LL, List.getElem_map, List.getElem_range, upA]
    by_cases hj : i = j
    · rw [if_pos hj, if_pos hj.symm]
    · rw [if_neg hj, if_neg (fun h => hj h.symm)]
theorem LL_app (L : Nat → Ned) (n : Nat) (x : Ned) : LL L n ++ [x] = LL (upA L n x) (n + 1) := by
  unfold LL
  rw [List.range_succ, List.map_append]
  congr 1
  · refine List.map_congr_left fun i hi => ?_
    rw [upA_ne]; have := List.mem_range.1 hi; omega
  · simp [upA_at]
theorem LL_find {L : Nat → Ned} {n i : Nat} {h sd : Int} (hi : i < n) (h1 : (L i).host = h) (h2 : (L i).sd = sd) (u : ∀ j, j < n → (L j).host = h → (L j).sd = sd → j = i) : nFind (LL L n) h sd = (i : Int) := by
  have : (LL L n).findIdx? (fun x => decide (x.host = h) && decide (x.sd = sd)) = some i := by
    rw [List.findIdx?_eq_some_iff_getElem]
    refine ⟨by rw [LL_len]; exact hi, by rw [LL_at]; simp [h1, h2], fun j hj => ?_⟩
    rw [LL_at]
    simp only [Bool.and_eq_true, decide_eq_true_eq]
    rintro ⟨a, b⟩
    have := u j (by omega) a b
    omega
  unfold nFind; rw [this]
theorem LL_nofind {L : Nat → Ned} {n : Nat} {h sd : Int} (u : ∀ j, j < n → ¬ ((L j).host = h ∧ (L j).sd = sd)) : nFind (LL L n) h sd = -1 := by
  have : (LL L n).findIdx? (fun x => decide (x.host = h) && decide (x.sd = sd)) = none := by
    rw [List.findIdx?_eq_none_iff]
    intro x hx
    simp only [LL, List.mem_map, List.mem_range] at hx
    obtain ⟨j, hj, rfl⟩ := hx
    have := u j hj
    by_cases a : (L j).host = h
    · by_cases b : (L j).sd = sd
      · exact absurd ⟨a, b⟩ this
      · simp [b]
    · simp [a]
  unfold nFind; rw [this]
theorem LL_latest {L : Nat → Ned} {n p : Nat} {h lp rh rp : Int} {c : Bool} (hp : p < n) (m : Ned.at h lp rh rp c (L p) = true) (u : ∀ k, k < n → Ned.at h lp rh rp c (L k) = true → k ≤ p) : nLatest (LL L n) h lp rh rp c = (p : Int) := by
  have : (LL L n).reverse.findIdx? (Ned.at h lp rh rp c) = some (n - 1 - p) := by
    rw [List.findIdx?_eq_some_iff_getElem]
    refine ⟨by rw [List.length_reverse, LL_len]; omega, ?_, fun j hj => ?_⟩
    · rw [List.getElem_reverse, LL_at, LL_len]
      have e : n - 1 - (n - 1 - p) = p := by omega
      rw [e]; exact m
    · rw [List.getElem_reverse, LL_at, LL_len]
      intro hh
      have := u (n - 1 - j) (by omega) hh
      omega
  unfold nLatest; rw [this, LL_len]
  dsimp only; omega
theorem at_iff {h lp rh rp : Int} {c : Bool} {x : Ned} : Ned.at h lp rh rp c x = true ↔ x.host = h ∧ x.lPort = lp ∧ x.rHost = rh ∧ x.rPort = rp ∧ x.client = c := by
  unfold Ned.at
  simp only [Bool.and_eq_true, decide_eq_true_eq, beq_iff_eq, and_assoc]
theorem LL_peer {L : Nat → Ned} {n p : Nat} (h : p < n) : nPeer (LL L n) (p : Int) = (L p).peer := by
  unfold nPeer; rw [Int.toNat_natCast, LL_get h]
theorem LL_sent {L : Nat → Ned} {n p : Nat} (h : p < n) : nSent (LL L n) (p : Int) = (L p).sent := by
  unfold nSent; rw [Int.toNat_natCast, LL_get h]
theorem LL_closed {L : Nat → Ned} {n p : Nat} (h : p < n) : nClosed (LL L n) (p : Int) = (L p).closed := by
  unfold nClosed; rw [Int.toNat_natCast, LL_get h]
theorem LL_rcvd {L : Nat → Ned} {n p : Nat} (h : p < n) : nRcvd (LL L n) (p : Int) = (L p).rcvd := by
  unfold nRcvd; rw [Int.toNat_natCast, LL_get h]
/-! ### before and behind a look -/
def live (c : Conn) : Prop := c.x.st = 4 → c.x.why = 0
/-- what holds of the i-th end's record at any time -/
structure NetC (w : W) (L : Nat → Ned) (i : Nat) : Prop where
  id : SameId (w.N i) (L i)
  sent : (L i).sent = (w.N i).sent
  closed : (L i).closed = (w.N i).closed
  kid : (w.N i).client = false → (L i).peer = (w.N i).peer
  rdl : ((L i).rcvd.length : Int) = (w.G i).rd
  pre : ∀ p, w.mut i p → (L i).rcvd <+: (w.N p).sent
  off : 0 ≤ (L i).offered ∧ (L i).offered ≤ (w.G i).r
  pfn : (L i).peerFin = true → (w.G i).pf = true
  fin : (L i).state = 4 → (L i).why = 0 → (w.G i).fa = true ∧ (w.G i).pf = true ∧ (L i).peerFin = true ∧ ∀ p, w.mut i p → (L i).offered = (w.N p).sent.length
/-- before a look -/
structure NetP (w : W) (L : Nat → Ned) (del : Nat → Int) (i : Nat) : Prop where
  c : NetC w L i
  row : ∀ e c, w.row i e c → (L i).gone = false ∧ mayStep (L i).state c.x.st = true ∧ ((L i).state = 4 → c.x.why = (L i).why ∨ ((L i).why = 0 ∧ c.x.why = 20)) ∧ (w.N i).wasOpen = ((L i).wasOpen || decide (c.x.st = 3)) ∧
    (((L i).peer = (w.N i).peer ∧ ¬ ((L i).state ≠ 3 ∧ c.x.st = 3)) ∨ ((L i).state ≠ 3 ∧ c.x.st = 3 ∧ del (L i).host.toNat ≠ 0 ∧ (∀ j, j < w.n → j ≠ i → (L j).peer = (w.N j).peer) ∧ ∃ p : Nat, (w.N i).peer = (p : Int) ∧ p < w.n ∧ ((w.N i).client = true → ∀ k, k < w.n → twin (w.N p) (w.N k) → k ≤ p)))
  norow : (∀ e c, ¬ w.row i e c) → (L i).state = 4 ∧ (L i).peer = (w.N i).peer ∧ (L i).wasOpen = (w.N i).wasOpen
/-- behind a look -/
structure NetI (w : W) (L : Nat → Ned) (i : Nat) : Prop where
  c : NetC w L i
  peer : (L i).peer = (w.N i).peer
  wo : (L i).wasOpen = (w.N i).wasOpen
  row : ∀ e c, w.row i e c → (L i).gone = false ∧ (L i).state = c.x.st ∧ (L i).why = c.x.why ∧ (live c → (L i).offered = (w.G i).r ∧ (L i).peerFin = (w.G i).pf)
  norow : (∀ e c, ¬ w.row i e c) → (L i).gone = true ∧ (L i).state = 4
theorem NetC.congr {w : W} {L L' : Nat → Ned} {i : Nat} (h : NetC w L i) (e : L' i = L i) : NetC w L' i := ⟨by rw [e]; exact h.id, by rw [e]; exact h.sent, by rw [e]; exact h.closed, by rw [e]; exact h.kid, by rw [e]; exact h.rdl, by rw [e]; exact h.pre, by rw [e]; exact h.off, by rw [e]; exact h.pfn, by rw [e]; exact h.fin⟩
theorem NetI.congr {w : W} {L L' : Nat → Ned} {i : Nat} (h : NetI w L i) (e : L' i = L i) : NetI w L' i := ⟨h.c.congr e, by rw [e]; exact h.peer, by rw [e]; exact h.wo, by rw [e]; exact h.row, by rw [e]; exact h.norow⟩
/-- what the law writes down of a row that it sees -/
def vis (w : W) (L : Nat → Ned) (i : Nat) (c : Conn) : Ned := { (L i).seen (w.N i).peer c.info with peerFin := (L i).peerFin || c.x.peerFin }
theorem see_one {w : W} (I : Inv w) {L : Nat → Ned} {del : Nat → Int} {m0 : Nat} (hmn : m0 ≤ w.n) {i : Nat} (hi0 : i < m0) (hm0 : ∀ p, w.mut i p → p < m0) {e : En} {c : Conn} (r : w.row i e c) {h : Int} (hh : (w.N i).host = h) (P : NetP w L del i) (all : ∀ j, j < m0 → NetC w L j) :
    nSee (LL L m0) del h e c.info = some (LL (upA L i (vis w L i c)) m0) ∧ NetI w (upA L i (vis w L i c)) i := by
  have hi : i < w.n := by omega
  have C := P.c
  obtain ⟨g0, may, why, wo, opn⟩ := P.row e c r
  have hhr := I.hostR i hi
  have hsd : e.sd = (w.N i).sd := by
    obtain ⟨_, _, _, _, k⟩ := Tb.at_row r.at_
    exact k
  have hfind : nFind (LL L m0) h e.sd = (i : Int) := by
    refine LL_find hi0 (C.id.host.trans hh) (C.id.sd.trans hsd.symm) (fun j hj a b => ?_)
    have cj := (all j hj).id
    exact I.uniq j i (by omega) hi (by rw [← cj.host, a, hh]) (by rw [← cj.sd, b, hsd])
  have okc := I.row_c hi r
  have gi := I.gh i hi
  -- the status of the row, as far as the law cares
  have st : (live c → ((L i).rcvd.length : Int) + c.r.avail = (w.G i).r) := fun hl => by
    rw [C.rdl]
    cases I.sta i hi e c r with
    | syn cl pe o t pa nc wo z zs => rw [z, o.av]; rfl
    | srv p cl pe o t pa nx nc wo z zs => rw [z, o.av]; rfl
    | well p m rel wl => have := rel.rdq; omega
    | bad st why av pf => have := hl st; omega
  have cases4 : (live c ∧ (c.x.peerFin = true → (w.G i).pf = true) ∧ ((∃ p, w.mut i p) ∨ (w.G i).r = 0)) ∨ (¬ live c ∧ c.r.avail = 0 ∧ c.x.peerFin = false) := by
    have hr0 : (∃ p, w.mut i p) ∨ (w.G i).r = 0 := by
      by_cases hm : ∃ p, w.mut i p
      · exact .inl hm
      · right
        have := (I.new i hi (fun p m => hm ⟨p, m⟩)).1
        rw [this]; rfl
    cases I.sta i hi e c r with
    | syn cl pe o => exact .inl ⟨(fun h4 => by have := o.st; omega), (fun hp => by rw [o.pf] at hp; cases hp), hr0⟩
    | srv p cl pe o => exact .inl ⟨(fun h4 => by have := o.st; omega), (fun hp => by rw [o.pf] at hp; cases hp), hr0⟩
    | well p m rel wl => exact .inl ⟨(fun _ => wl.why), (fun hp => by rw [← rel.pf]; exact hp), hr0⟩
    | bad st why av pf => exact .inr ⟨fun hl => by have := hl st; omega, av, pf⟩
  have offle : (L i).offered ≤ (w.G i).r ∧ ((L i).rcvd.length : Int) + c.r.avail ≤ (w.G i).r := by
    refine ⟨C.off.2, ?_⟩
    rcases cases4 with ⟨hl, _⟩ | ⟨_, ha, _⟩
    · rw [st hl]; exact Int.le_refl _
    · have := C.rdl; have := gi.rd; omega
  have hav : c.info.avail = c.r.avail := rfl
  have hcs : c.info.state = c.x.st := rfl
  have hcw : c.info.why = c.x.why := rfl
  have hcp : c.info.peerFin = c.x.peerFin := rfl
  have seenoff : ((L i).seen (w.N i).peer c.info).offered ≤ (w.G i).r ∧ (live c → ((L i).seen (w.N i).peer c.info).offered = (w.G i).r) := by
    unfold Ned.seen
    dsimp only
    rw [hav]
    split
    · exact ⟨offle.2, fun hl => st hl⟩
    · exact ⟨offle.1, fun hl => by have := st hl; omega⟩
  -- the peer's stream
  have peer : ∀ p, w.mut i p → (w.N i).peer = (p : Int) ∧ (p ≠ i ∧ p < m0) ∧ ((w.G i).r ≤ (w.N p).sent.length) ∧ ((w.G i).pf = true → (w.N p).closed = true ∧ (w.G i).r = (w.N p).sent.length) := fun p m => by
    have gp := I.gh p m.hp
    have pr := I.pair p i m.symm
    refine ⟨m.ip, ⟨I.mut_ne m, hm0 p m⟩, by have := pr.rx; have := gp.xn; omega, fun hp => ?_⟩
    obtain ⟨a, b⟩ := pr.pf hp
    obtain ⟨c1, c2⟩ := gp.f1 a
    exact ⟨c2, by rw [b]; exact c1⟩
  have L2 : ∀ (X : Ned) (p : Nat), p < m0 → p ≠ i → nSent ((LL L m0).set i X) (p : Int) = (w.N p).sent ∧ nClosed ((LL L m0).set i X) (p : Int) = (w.N p).closed := fun X p hp hpi => by
    rw [LL_set, LL_sent hp, LL_closed hp, upA_ne _ _ hpi]
    exact ⟨(all p hp).sent, (all p hp).closed⟩
  -- openings
  have hopen : nOpenTo (LL L m0) del h (i : Int) (L i) c.x.st = some (w.N i).peer := by
    unfold nOpenTo
    rcases opn with ⟨o1, o2⟩ | ⟨o1, o2, o3, o6', p, o4, o5', o7⟩
    · rw [if_neg o2, o1]
    · rw [if_pos ⟨o1, o2⟩]
      have hdel : ¬ del h.toNat = 0 := by rw [← hh, ← C.id.host]; exact o3
      rw [if_neg hdel]
      have m : w.mut i p := by
        cases I.sta i hi e c r with
        | syn cl pe o => have := o.st; omega
        | srv p cl pe o => have := o.st; omega
        | well p' m rel wl =>
          have : p' = p := by have := m.ip; omega
          subst this; exact m
        | bad st => omega
      have o5 : p < m0 := hm0 p m
      have o6 : (L p).peer = (i : Int) := by rw [o6' p o5' (I.mut_ne m)]; exact m.pi
      have hmr := I.mir_of_mut m
      by_cases hc : (L i).client = true
      · rw [if_pos hc]
        have hcl : (w.N i).client = true := by rw [← C.id.cl]; exact hc
        have hcp : (w.N p).client = false := by
          have h2 := (I.mut_cl m).symm
          rw [hcl] at h2
          cases hp : (w.N p).client <;> rw [hp] at h2 <;> simp_all
        have hlat : nLatest (LL L m0) ((L i).rHost - 1) (L i).rPort (h + 1) (L i).lPort false = (p : Int) := by
          refine LL_latest o5 ?_ (fun k hk ha => ?_)
          · rw [at_iff]
            have cp := (all p o5).id
            rw [cp.host, cp.lp, cp.rh, cp.rp, cp.cl, C.id.rh, C.id.rp, C.id.lp]
            exact ⟨by have := hmr.1; omega, hmr.2.2.2.symm, by have := hmr.2.1; omega, hmr.2.2.1.symm, hcp⟩
          · rw [at_iff] at ha
            have ck := (all k hk).id
            rw [ck.host, ck.lp, ck.rh, ck.rp, ck.cl, C.id.rh, C.id.rp, C.id.lp] at ha
            obtain ⟨b1, b2, b3, b4, b5⟩ := ha
            exact o7 hcl k (by omega) ⟨by have := hmr.1; omega, hmr.2.2.2.symm.trans b2.symm, by have := hmr.2.1; omega, hmr.2.2.1.symm.trans b4.symm⟩
        rw [hlat, LL_peer o5, o6, if_neg (by omega), o4]
      · rw [if_neg hc]
        have hcl : (w.N i).client = false := by rw [← C.id.cl]; simpa using hc
        rw [C.kid hcl, o4, LL_peer o5, o6, if_neg (by omega)]
  have hwo : ((L i).seen (w.N i).peer c.info).wasOpen = (w.N i).wasOpen := by
    rw [wo]; rfl
  refine ⟨?_, ?_⟩
  · unfold nSee
    rw [if_neg (by omega), hfind, if_neg (by omega), Int.toNat_natCast, LL_get hi0]
    dsimp only
    rw [hcs, hcw, hcp, if_neg (by
      rintro (k | k | ⟨k1, k2, k3⟩)
      · rw [g0] at k; cases k
      · rw [may] at k; cases k
      · rcases why k1 with a | a
        · exact k2 a.symm
        · exact k3 a), hopen]
    dsimp only
    rw [if_neg (by
      rintro ⟨k1, k2⟩
      rw [hwo] at k2
      exact k2 (I.rd i hi e c r k1))]
    have mt : 0 < (w.G i).r → ∃ p, w.mut i p := fun hrp => by
      by_cases hm : ∃ p, w.mut i p
      · exact hm
      · have := (I.new i hi (fun p m => hm ⟨p, m⟩)).1
        rw [this] at hrp
        have hrp : (0 : Int) < 0 := hrp
        omega
    have noff : ¬ (0 < ((L i).seen (w.N i).peer c.info).offered ∧ ((w.N i).peer < 0 ∨ ((nSent ((LL L m0).set i ((L i).seen (w.N i).peer c.info)) (w.N i).peer).length : Int) < ((L i).seen (w.N i).peer c.info).offered)) := by
      have so := seenoff.1
      generalize (L i).seen (w.N i).peer c.info = v at *
      rintro ⟨k1, k2⟩
      obtain ⟨p, m⟩ := mt (by omega)
      obtain ⟨a1, a2, a3, _⟩ := peer p m
      rw [a1, (L2 v p a2.2 a2.1).1] at k2
      omega
    rw [if_neg noff]
    -- whose FIN it is
    have fin : c.x.peerFin = true → live c ∧ ∃ p, w.mut i p ∧ (w.G i).pf = true := fun hp => by
      rcases cases4 with ⟨hl, hp', hm⟩ | ⟨_, _, hp'⟩
      · refine ⟨hl, ?_⟩
        have hpf := hp' hp
        by_cases hm : ∃ p, w.mut i p
        · obtain ⟨p, m⟩ := hm; exact ⟨p, m, hpf⟩
        · have := (I.new i hi (fun p m => hm ⟨p, m⟩)).1
          rw [this] at hpf; exact absurd (show false = true from hpf) (by decide)
      · rw [hp] at hp'; cases hp'
    by_cases hpf : c.x.peerFin = true ∧ (L i).peerFin = false
    · rw [if_pos hpf]
      obtain ⟨hl, p, m, hg⟩ := fin hpf.1
      obtain ⟨a1, a2, a3, a4⟩ := peer p m
      obtain ⟨a5, a6⟩ := a4 hg
      have so := seenoff.2 hl
      have e : vis w L i c = { (L i).seen (w.N i).peer c.info with peerFin := true } := by
        unfold vis; rw [hpf.1, Bool.or_true]
      rw [e]
      generalize (L i).seen (w.N i).peer c.info = v at *
      have hno : ¬ ((w.N i).peer < 0 ∨ nClosed ((LL L m0).set i v) (w.N i).peer = false ∨ v.offered ≠ (nSent ((LL L m0).set i v) (w.N i).peer).length) := by
        rw [a1, (L2 v p a2.2 a2.1).1, (L2 v p a2.2 a2.1).2, a5]
        rintro (k | k | k)
        · omega
        · cases k
        · exact k (by omega)
      rw [if_neg hno, LL_set]
    · rw [if_neg hpf, LL_set]
      have e : vis w L i c = (L i).seen (w.N i).peer c.info := by
        unfold vis
        have : ((L i).peerFin || c.x.peerFin) = (L i).peerFin := by
          cases h1 : (L i).peerFin with
          | true => rfl
          | false =>
            cases h2 : c.x.peerFin with
            | false => rfl
            | true => exact absurd ⟨h2, h1⟩ hpf
        rw [this]; rfl
      rw [e]
  · have ev : upA L i (vis w L i c) i = vis w L i c := upA_at ..
    have pfv : (vis w L i c).peerFin = true → (w.G i).pf = true := fun hp => by
      have hp : ((L i).peerFin || c.x.peerFin) = true := hp
      rw [Bool.or_eq_true] at hp
      rcases hp with hp | hp
      · exact C.pfn hp
      · rcases cases4 with ⟨_, h1, _⟩ | ⟨_, _, h1⟩
        · exact h1 hp
        · rw [hp] at h1; cases h1
    have pfr : live c → (vis w L i c).peerFin = (w.G i).pf := fun hl => by
      -- a live row shows its FIN
      cases hpf : (w.G i).pf with
      | false =>
        cases hv : (vis w L i c).peerFin with
        | false => rfl
        | true => have := pfv hv; rw [hpf] at this; cases this
      | true =>
        show ((L i).peerFin || c.x.peerFin) = true
        have : c.x.peerFin = true := by
          cases I.sta i hi e c r with
          | syn cl pe o t pa nc wo z zs => rw [z] at hpf; exact absurd (show false = true from hpf) (by decide)
          | srv p cl pe o t pa nx nc wo z zs => rw [z] at hpf; exact absurd (show false = true from hpf) (by decide)
          | well p m rel wl => rw [rel.pf]; exact hpf
          | bad st why av pf => have := hl st; omega
        rw [this, Bool.or_true]
    refine ⟨⟨?_, ?_, ?_, ?_, ?_, ?_, ?_, ?_, ?_⟩, ?_, ?_, fun e' c' r' => ?_, fun ha => absurd r (ha e c)⟩
    · rw [ev]; exact ⟨C.id.host, C.id.sd, C.id.lp, C.id.rh, C.id.rp, C.id.cl⟩
    · rw [ev]; exact C.sent
    · rw [ev]; exact C.closed
    · rw [ev]; exact fun _ => rfl
    · rw [ev]; exact C.rdl
    · rw [ev]; exact C.pre
    · rw [ev]
      refine ⟨?_, seenoff.1⟩
      show 0 ≤ ((L i).seen (w.N i).peer c.info).offered
      unfold Ned.seen; dsimp only
      have := C.off.1
      split <;> omega
    · rw [ev]; exact pfv
    · rw [ev]
      intro h4 hw
      have h4 : c.x.st = 4 := h4
      have hw : c.x.why = 0 := hw
      have hl : live c := fun _ => hw
      cases I.sta i hi e c r with
      | syn cl pe o => have := o.st; omega
      | srv p cl pe o => have := o.st; omega
      | bad st why => omega
      | well p m rel wl =>
        rcases wl.st with k | ⟨_, k1, k2⟩
        · have := k.1.st; omega
        · refine ⟨k1, k2, by rw [pfr hl]; exact k2, fun p' m' => ?_⟩
          show ((L i).seen (w.N i).peer c.info).offered = _
          rw [seenoff.2 hl]
          exact ((peer p' m').2.2.2 k2).2
    · rw [ev]; rfl
    · rw [ev]; exact hwo
    · obtain ⟨q1, q2⟩ := r'.inj r
      rw [ev, q2]
      exact ⟨g0, rfl, rfl, fun hl => ⟨seenoff.2 hl, pfr hl⟩⟩
end Go.Proofs.Qxb6500351aGreat
