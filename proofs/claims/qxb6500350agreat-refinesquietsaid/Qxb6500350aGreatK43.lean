/- PLAIN LAW: THE GRAPH LAYER'S FORMAT AND OPEN. -/
import Derived.Test.Qxb6500350aGreatK42
import Derived.Test.Qxb6500350aGreatT74
set_option linter.unusedVariables false
set_option linter.unusedSimpArgs false
set_option maxHeartbeats 2000000
namespace Go.Proofs.Qxb6500350aGreat
open Go.Eng Go
theorem Ok.and {α : Type} {x : Option α} {P Q : α → Prop} (h : Ok x P) (k : Ok x Q) : Ok x (fun a => P a ∧ Q a) := by
  obtain ⟨a, h1, h2⟩ := h
  obtain ⟨b, k1, k2⟩ := k
  rw [h1] at k1
  obtain rfl := Option.some.inj k1
  exact ⟨a, h1, h2, k2⟩
def Hist.new : Hist := { nodes := [], nxt := 1, refs := [], head := { name := [109, 97, 105, 110], seq := 0, merge := 0 }, aux := [] }
def AllFree (A : Int → Ob) : Prop := ∀ i, 1 ≤ i → i ≤ 48 → (A i).st = 0
section
variable {n : Nat} {t : Trees} {s : Store} {d : Dev} {g : Graph} {A : Int → Ob} {root : Int}
/-- an object put into a store that has none like it takes its blocks -/
theorem put_steps {k : Int} {x : List UInt8} (hn : 100000 ≤ n) (h : LT t s d A root) (hk0 : 1 ≤ k) (hk1 : k ≤ 4) (hx : x.length ≤ 180) (hno : ∀ j, 1 ≤ j → j ≤ 48 → (A j).lv → (A j).kind ≠ k) (hfr : nfr A ≠ 0) :
    Ok (m274 n s d k x) (fun r => r.2.1 = 0 ∧ 1 ≤ r.1 ∧ r.1 ≤ 48 ∧ r.2.2.2.at_.length = d.at_.length + nbk x.length) := by
  have hwr := h.wr
  refine (put_ok (k := k) (x := x) hn h.gd (by omega) h.st hk0 hk1 hx).mono (fun r hr => ?_)
  rcases hr with ⟨i, i0, i1, i2, i3, i4, rfl⟩ | ⟨f1, f2, rfl⟩ | ⟨f1, i, P, s', d', i0, i1, i2, i3, rfl, i4, i5⟩
  · exact absurd i3 (hno i i0 i1 i2)
  · exact absurd (nfr_zero f1) hfr
  · exact ⟨rfl, i0, i1, i5.steps⟩
theorem wt_steps (hn : 100010 ≤ n) (h : LT t s d A root) (hno : ∀ j, 1 ≤ j → j ≤ 48 → (A j).lv → (A j).kind ≠ 2) (hfr : nfr A ≠ 0) : Ok (m248 n t s d []) (fun r => r.2.2.2.2.at_.length = d.at_.length + 1) := by
  obtain ⟨m, rfl⟩ : ∃ m, n = m + 1 := ⟨n - 1, by omega⟩
  unfold m248
  refine Ok_cl1 (checkEntries_ok (by omega)) (Ok_ite (fun e => absurd rfl e) (fun _ => Ok_flow ?_))
  unfold m248_w1
  refine Ok_it1 (fun (c : Int) => c = 0) (fun (c : Int) => 0) ?_ (m + 1) 0 rfl (by omega)
  rintro Q lp c hQ rfl ih
  refine Ok_ite (fun e => absurd e (by simp)) (fun _ => Ok.some' (hQ _ ?_))
  refine Ok_ob5 ?_
  rw [m288_s]
  refine Ok_mk (by omega) (by omega) (by omega) (Ok_flow ?_)
  unfold m288_w1
  refine Ok_it5 (fun (b : List UInt8) (c : Int) (z1 : Trees) (z2 : Store) (z3 : Dev) => b = [] ∧ c = 0 ∧ z1 = t ∧ z2 = s ∧ z3 = d) (fun _ _ _ _ _ => 0) ?_ m _ _ t s d ⟨rfl, rfl, rfl, rfl, rfl⟩ (by omega)
  rintro Q2 lp2 b c z1 z2 z3 hQ2 ⟨rfl, rfl, rfl, rfl, rfl⟩ ih2
  refine Ok_ite (fun e => absurd e (by simp)) (fun _ => Ok.some' (hQ2 _ ?_))
  refine Ok_ob4 ((put_steps (n := m) (k := 2) (x := []) (by omega) h (by omega) (by omega) (by simp) hno hfr).mono (fun r hr => ?_))
  obtain ⟨c1, c2, z1', z2'⟩ := r
  obtain ⟨e1, e2, e3, e4⟩ := hr
  simp only at e1 e2 e3 e4
  subst e1
  refine Ok_ite (fun e => absurd rfl e) (fun _ => Ok_ck (by omega) (by omega) (Ok_ite (fun _ => Ok_ck (by omega) (by omega) (Ok_nm ?_)) (fun _ => Ok.some' (Ok.some' e4))))
  have := tally_ok (n := m) (t := { z1 with kind := upI z1.kind c1 2 }) (rs := []) (v := 1) (by omega) (by simp) (by simp) (.inl rfl) (fun x x0 x1 => by
    show _ ≤ z1.count x ∧ z1.count x ≤ _
    rw [h.tr.ct x (by omega) x1]
    have := cntAll_le (R := Rw A) (fun j => h.ts.rowsOf.len h.st.dlen j) x
    omega)
  exact Ok_cl1 this (Ok.some' (Ok.some' e4))
theorem tput_steps {k : Int} {x : List UInt8} (hn : 100000 ≤ n) (h : LT t s d A root) (hk0 : 1 ≤ k) (hk1 : k ≤ 4) (hk2 : k ≠ 2) (hx : x.length ≤ 60) (hno : ∀ j, 1 ≤ j → j ≤ 48 → (A j).lv → (A j).kind ≠ k) (hfr : nfr A ≠ 0) :
    Ok (m214 n t s d k x) (fun r => r.2.2.2.2.at_.length = d.at_.length + 1) := by
  unfold m214
  refine Ok_ite (fun e => absurd e hk2) (fun _ => Ok_ob4 ((put_steps (k := k) (x := x) hn h hk0 hk1 (by omega) hno hfr).mono (fun r hr => ?_)))
  obtain ⟨c1, c2, z1', z2'⟩ := r
  obtain ⟨e1, e2, e3, e4⟩ := hr
  simp only at e1 e2 e3 e4
  subst e1
  have hb : nbk x.length = 1 := by unfold nbk; rw [if_pos hx]
  rw [hb] at e4
  exact Ok_ite (fun _ => Ok_ck (by omega) (by omega) (Ok_nm (Ok.some' e4))) (fun e => absurd rfl e)
theorem free_nfr (h : AllFree A) : nfr A = 48 := by
  unfold nfr
  rw [← ids_len]
  congr 1
  refine List.filter_eq_self.2 fun i hi => ?_
  have := mem_ids.1 hi
  exact decide_eq_true (h i this.1 this.2)
theorem gformat_ok (hn : 100010 ≤ n) (h : LT t s d A 0) (hA : AllFree A) (hd : d.at_.length < 600000) :
    Ok (m169 n g t s d) (fun r => ∃ A' root', Gr r.2.1 r.2.2.1 r.2.2.2 r.1 A' root' [] (fun _ => ⟨0, 0, [], [], []⟩) [] Hist.new ∧ Done d A r.2.2.2 A' root' ∧ r.2.2.2.at_.length = d.at_.length + 3 ∧ 46 ≤ nfr A') := by
  have hfA := h.st.freeE
  have hnf := free_nfr hA
  have hnl : ∀ j, 1 ≤ j → j ≤ 48 → ¬ (A j).lv := fun j h0 h1 hl => Ob.lv_ne hl (hA j h0 h1)
  have hlaw : Law (([] : List Entry).map Entry.toF) := ⟨by simp, by simp, by simp, by simp, .nil, .nil⟩
  unfold m169
  refine Ok_ob1 ((clear_ok (by omega)).mono (fun z1 hz => ?_))
  refine Ok_ob5 (((writeTree_ok (l := []) hn h hlaw (by simp)).and (wt_steps hn h (fun j h0 h1 hl => absurd hl (hnl j h0 h1)) (by omega))).mono (fun r hr => ?_))
  obtain ⟨⟨t1, s1, d1, A1, Q, l1, g1, hD, hr⟩, hst1⟩ := hr
  have hQ1 : Q.length ≤ 1 := by
    have := nodup_sub_le (U := [([] : Str)]) hD.nd (fun q hq => by
      rcases (hD.mem q hq).2 with e | ⟨e, he, _⟩
      · rw [e]; simp
      · cases he)
    simpa using this
  rcases hr with ⟨_, hr⟩ | ⟨i, rfl, r1, r2, r3⟩
  · omega
  · simp only at hst1
    refine Ok_nm ?_
    have hi := r1.tr
    have hbr : ({ z1 with aux := i } : Graph).br = brF [] := by
      show z1.br = _
      rw [hz.br]; funext k; unfold brF; split <;> simp
    have hrb := refsBytes_ok (n := n) (g := { z1 with aux := i }) (bs := []) (by omega) (by show 0 ≤ z1.nxt; rw [hz.nxt]; omega) (by show z1.nxt < _; rw [hz.nxt]; omega) (by show z1.name.length ≤ 6; rw [hz.name]; decide) (by simp) (by simp) hz.nb hbr
    refine Ok_cl1 hrb ?_
    have hbl := rbytes_len (nxt := z1.nxt) (aux := i) (name := z1.name) (at_ := z1.at_) (merge := z1.merge) (bs := []) (by rw [hz.name]; decide) (by simp) (by simp)
    have hk1 : ∀ j, 1 ≤ j → j ≤ 48 → (A1 j).lv → (A1 j).kind = 2 := fun j h0 h1 hl => by
      rcases g1.kin j h0 h1 with e | e
      · rw [e] at hl; exact absurd hl (hnl j h0 h1)
      · exact e
    refine Ok_ob5 (((tput_ok (k := 4) (by omega) l1 (by omega) (by omega) (by omega) (by show (rbytes z1.nxt i z1.name z1.at_ z1.merge []).length ≤ 180; omega)).and (tput_steps (k := 4) (by omega) l1 (by omega) (by omega) (by omega) (by show (rbytes z1.nxt i z1.name z1.at_ z1.merge []).length ≤ 60; omega) (fun j h0 h1 hl => by have := hk1 j h0 h1 hl; omega) (by omega))).mono (fun r hr => ?_))
    obtain ⟨hr, hst2⟩ := hr
    rcases hr with ⟨f0, _⟩ | ⟨j, t2, s2, d2, A2, rfl, b1, b2, b3, b4, b5, b6, b7, b8, b9⟩
    · omega
    · simp only at hst2
      refine Ok_ob3 ((tcommit_ok (nr := j) (by omega) b1 (by omega) (.inr ⟨b4, b5, b6⟩)).mono (fun r hr => Ok.some' ?_))
      obtain ⟨c1, c2, c3⟩ := r
      obtain ⟨e1, e2, e3, e4⟩ := hr
      have hk2 : ∀ x, 1 ≤ x → x ≤ 48 → (A2 x).lv → x ≠ j → (A2 x).kind = 2 := fun x h0 h1 hl hx => by
        rw [b9 x hx] at hl ⊢; exact hk1 x h0 h1 hl
      have hgw : Grow (fun _ => True) d A d2 A2 := (g1.mono fun _ _ => trivial).trans hfA (b2.mono fun _ _ => trivial)
      have haux : TV A2 i [] := by
        refine TV.ext ⟨hi, ?_⟩ l1.ts b2.ext
        rw [r2]; rfl
      refine ⟨fun x => (A2 x).cmt, j, ?_, ?_, ?_, by have h3 := cmt_free (A := A2); omega⟩
      · refine Gr.of_cmt b1.ts (fun x x0 x1 => b1.st.rng x x0 x1) ⟨⟨hz.n, by simp, fun k k0 k1 => absurd k1 (by simp; omega), by simp, .nil⟩, by simp, by simp, fun x x0 x1 _ => hz.com x x0 x1, fun x => ⟨(fun h => by cases h), fun hx => ?_⟩, by simp, by simp, by simp, by simp, by simp, by simp, by show 1 ≤ z1.nxt ∧ z1.nxt < _; rw [hz.nxt]; omega⟩
          ⟨⟨hz.nb, hbr, by simp⟩, by simp, .nil, rfl, hz.name, .inl ⟨by decide, by decide, hz.at_, rfl⟩, .inl ⟨rfl, hz.merge⟩⟩ haux ⟨by simp [Hist.new], by simp [Hist.new], by simp [Hist.new], by simp [Hist.new], .nil, .nil⟩ rfl hz.nxt.symm ⟨b4, b5, b6, b7⟩ (fun x hx => ?_) e2 b8
        · exfalso
          by_cases e : x = j
          · subst e; have := hx.2.2.2; omega
          · have := hk2 x hx.1 hx.2.1 hx.2.2.1 e; have := hx.2.2.2; omega
        · apply Classical.byContradiction
          intro e
          have := hk2 x hx.1 hx.2.1 hx.2.2.1 e; have := hx.2.2.2; omega
      · obtain ⟨k, k1, k2⟩ := hgw.dev
        obtain ⟨W, w1, w2, w3⟩ := k1.ws
        exact ⟨e3.trans k1.base, W, by show c3.ws = _; rw [e4, w1], by omega, w3⟩
      · have hl := congrArg List.length e4
        rw [List.length_append, Dev.ws_len, Dev.ws_len] at hl
        simp only [List.length_singleton] at hl
        show c3.at_.length = _
        omega
/-- Open over a store that holds nothing -/
theorem gopen_new (hn : 100010 ≤ n) (h : LT t s d A 0) (hA : AllFree A) (hd : d.at_.length < 600000) :
    Ok (m74 n t s d) (fun r => ∃ A' root', Gr r.2.1 r.2.2.1 r.2.2.2 r.1 A' root' [] (fun _ => ⟨0, 0, [], [], []⟩) [] Hist.new ∧ Done d A r.2.2.2 A' root' ∧ r.2.2.2.at_.length = d.at_.length + 3 ∧ 46 ≤ nfr A') := by
  unfold m74
  refine Ok_cl1 (root_ok h) (Ok_ite (fun _ => ?_) (fun e => absurd rfl e))
  exact Ok_ob4 ((gformat_ok hn h hA hd).mono (fun r hr => Ok.some' hr))
/-- Open over a store with a past -/
theorem gopen_ok {t0 : Trees} {s0 : Store} {d0 : Dev} {g0 : Graph} {ord : List Int} {K : Int → CI} {bs : List Brn} {H : Hist} (hn : 100010 ≤ n) (h0 : Gr t0 s0 d0 g0 A root ord K bs H) (hl : LT t s d A root) :
    Ok (m74 n t s d) (fun r => r.2 = (t, s, d) ∧ Gr t s d r.1 A root ord K bs H) := by
  have := h0.rk.1
  unfold m74
  refine Ok_cl1 (root_ok hl) (Ok_ite (fun e => by omega) (fun _ => ?_))
  exact Ok_ob1 ((gload_ok hn h0 hl).mono (fun g' hg' => Ok.some' ⟨rfl, hg'⟩))
end
end Go.Proofs.Qxb6500350aGreat
