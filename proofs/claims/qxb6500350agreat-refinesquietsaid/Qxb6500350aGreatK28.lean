/- PLAIN LAW: BUILD (2). -/
import Derived.Test.Qxb6500350aGreatK27
set_option linter.unusedVariables false
set_option linter.unusedSimpArgs false
set_option maxHeartbeats 2000000
namespace Go.Proofs.Qxb6500350aGreat
open Go.Eng Go
theorem wi_e {x : Int} (h1 : -9223372036854775808 ≤ x) (h2 : x < 9223372036854775808) : wi x = x := wi_of h1 h2
section
variable {root : Int}
theorem m288_s {n : Nat} {t : Trees} {s : Store} {d : Dev} {list : List Entry} {lo hi skip : Int} : m288 (n + 1) t s d list lo hi skip = Option.bind (mkL 0 180 (0 : UInt8)) fun l1 =>
    flow (m288_w1 n list hi skip (m288 n) n l1 lo t s d) some (un5 fun l3 c2 z4 z5 z6 => ob4 (m274 n z5 z6 2 l3) fun c10 c11 z14 z15 =>
      cond (decide (¬ (c11 = 0))) (some (0, c11, z4, z14, z15)) (Option.bind (ckA c10 49) fun _ =>
      cond (decide ((z4.kind c10) = 0)) (Option.bind (ckA c10 49) fun _ => nm ({ z4 with kind := (upI z4.kind c10 2) } : Trees) fun z16 =>
      ob1 (m245 n z16 l3 1) fun z17 => some (c10, 0, z17, z14, z15)) (some (c10, 0, z4, z14, z15)))) := rfl
/-- what the walk answers -/
def BRes (root : Int) (d : Dev) (A : Int → Ob) (m : Nat) (pre : Str) (S : List Entry) (r : Int × Int × Trees × Store × Dev) : Prop :=
  ∃ t' s' d' A' Q, LT t' s' d' A' root ∧ Grow (fun q => q = 2) d A d' A' ∧ Dirs pre S Q ∧ ((r = (0, 5, t', s', d') ∧ nfr A < Q.length) ∨ ∃ i, r = (i, 0, t', s', d') ∧ Ht A' m i ∧ flatE A' m i = S.map (Entry.strip pre.length) ∧ nfr A ≤ nfr A' + Q.length)
theorem build_ok : ∀ (m : Nat) {n : Nat} {t : Trees} {s : Store} {d : Dev} {A : Int → Ob} {P S T : List Entry} {pre : Str}, 100000 + m ≤ n → LT t s d A root → 1 ≤ m → m ≤ 6 → Seg A m pre S → pre.length ≤ 12 → P.length + S.length + T.length ≤ 8 →
    Ok (m288 n t s d (P ++ S ++ T) P.length (P.length + S.length) pre.length) (BRes root d A m pre S)
  | 0, _, _, _, _, _, _, _, _, _, _, _, h, _, _, _, _ => absurd h (by omega)
  | m + 1, n + 1, t, s, d, A, P, S, T, pre, hn, h, hm, hm6, hS, hp, hl => by
    rw [m288_s]
    refine Ok_mk (by omega) (by omega) (by omega) (Ok_flow ?_)
    have hfA := h.st.freeE
    unfold m288_w1
    refine Ok_it5 (fun (b : List UInt8) (c : Int) (z1 : Trees) (z2 : Store) (z3 : Dev) => ∃ A1 rs S1 S2 Q1, S = S1 ++ S2 ∧ c = P.length + S1.length ∧ b = rs.flatMap encL ∧ BInv root d A m pre S1 S2 z1 z2 z3 A1 rs Q1)
      (fun (_ : List UInt8) (c : Int) (_ : Trees) (_ : Store) (_ : Dev) => ((P.length : Int) + S.length - c).toNat) ?_ n _ _ t s d ?_ (by show ((P.length : Int) + S.length - P.length).toNat < n; omega)
    rotate_left
    · refine ⟨A, [], [], S, [], rfl, by simp, rfl, h, .refl h.gd, ⟨by simp, .nil, by simp, by simp, by simp⟩, by simp, rfl, by simp, by simp, .nil, by simp, by simp, by simp⟩
    rintro Q lp b c z1 z2 z3 hQ ⟨A1, rs, S1, S2, Q1, rfl, rfl, rfl, hB⟩ ih
    have hl1 : ((S1 ++ S2).length : Int) = S1.length + S2.length := by simp
    have hbl := row_len (A := A) hB.nm
    have hln := hB.ln
    cases S2 with
    | nil =>
      refine Ok_ite (fun hc => by simp at hc) (fun _ => ?_)
      refine Ok.some' (hQ _ ?_)
      rw [List.append_nil] at hS ⊢
      have hh5 : ∀ r, r ∈ rs → r.dir = true → Ht A1 5 r.id := fun r hr hd => (hB.ht r hr hd).mono (by omega)
      have hnum := hS.num
      have hput := tputTree_ok (rs := rs) (n := n) (by omega) hB.lt hB.ro (by omega) hh5 (by rw [rowE_mono (m := m) (by omega) hB.ht, hB.fl, List.length_map]; exact hnum)
      refine Ok.mono hput (fun r hr => ?_)
      have hD : Dirs pre S1 (pre :: Q1) := by
        refine ⟨List.nodup_cons.2 ⟨fun hm => (hB.qm pre hm).2.1 rfl, hB.qn⟩, fun q hq => ?_⟩
        rcases List.mem_cons.1 hq with rfl | hq
        · exact ⟨List.prefix_refl _, .inl rfl⟩
        · exact ⟨(hB.qm q hq).1, .inr (hB.qm q hq).2.2⟩
      have hqc := hB.qc
      rcases hr with ⟨f1, rfl⟩ | ⟨i, t', s', d', A', rfl, a1, a2, a3, a4, a5⟩
      · exact ⟨z1, z2, z3, A1, pre :: Q1, hB.lt, hB.gr, hD, .inl ⟨rfl, by rw [List.length_cons]; omega⟩⟩
      · refine ⟨t', s', d', A', pre :: Q1, a1, hB.gr.trans hfA a2, hD, .inr ⟨i, rfl, ⟨a4, fun r hr hd => ?_⟩, ?_, by rw [List.length_cons]; omega⟩⟩
        · rw [a5] at hr; exact a2.ext.ht (hB.ht r hr hd)
        · rw [flatE_s, a5, rowE_ext a2.ext hB.ht, hB.fl]
    | cons e S2 =>
      rw [List.length_cons] at hl1
      have hS1 : Seg A1 (m + 1) pre (S1 ++ e :: S2) := hS.ext hB.gr.ext
      have hget : ∀ x, (P ++ (S1 ++ e :: S2) ++ T)[((P.length : Int) + S1.length).toNat]? = some x → x = e := by
        intro x hx
        rw [show ((P.length : Int) + S1.length).toNat = (P ++ S1).length by simp; omega, show P ++ (S1 ++ e :: S2) ++ T = (P ++ S1) ++ (e :: (S2 ++ T)) by simp, List.getElem?_append_right (Nat.le_refl _)] at hx
        simpa using hx.symm
      have hbnd : ((P.length : Int) + S1.length) < ((P ++ (S1 ++ e :: S2) ++ T).length : Int) := by simp; omega
      obtain ⟨q, hq, hrel⟩ := hS1.rel e (by simp)
      have hel := hS1.len e (by simp)
      have hmo := hS1.mod e (by simp)
      have hbl0 := hS1.blo e (by simp)
      rw [List.length_append, List.length_cons] at hl
      refine Ok_ite (fun _ => Ok_ix (by omega) hbnd (fun x hx => ?_)) (fun hc => by omega)
      obtain rfl := hget x hx
      rw [hq] at hel ⊢
      refine Ok_ob1 (Ok.mono (slash_rest (by omega) (by omega)) (fun r hr => ?_))
      rcases hr with ⟨rfl, hns⟩ | ⟨y, w, rfl, hny, rfl⟩
      · refine Ok_ite (fun _ => Ok_ix (by omega) hbnd (fun x2 hx2 => ?_)) (fun e => absurd e (by omega))
        obtain rfl := hget x2 hx2
        refine Ok_ix (by omega) hbnd (fun x3 hx3 => ?_)
        obtain rfl := hget x3 hx3
        rw [List.length_append] at hel
        refine Ok_sSl (by omega) (by rw [List.length_append]; omega) (by simp) ?_
        have hs1 : (List.take (((pre ++ q).length : Nat) : Int).toNat (pre ++ q)).drop (pre.length : Int).toNat = q := by
          rw [Int.toNat_natCast, Int.toNat_natCast, List.take_length, List.drop_left' rfl]
        rw [hs1]
        refine Ok_cl1 (appendRow_ok (by omega) (by omega) (by omega)) ?_
        have hw : wi ((P.length : Int) + S1.length + 1) = (P.length : Int) + S1.length + 1 := wi_of (by omega) (by omega)
        have hw2 : wi (x3.mode * 2) = x3.mode * 2 := wi_of (by omega) (by omega)
        rw [hw, hw2]
        refine ih _ _ _ _ _ ⟨A1, _, S1 ++ [x3], S2, Q1, by simp, by simp; omega, ?_, hB.file hS1 hq hns⟩ (by omega)
        rw [List.flatMap_append]; simp [encL]
      · refine Ok_ite (fun e => absurd e (by omega)) (fun _ => ?_)
        rw [List.length_append, List.length_append, List.length_cons] at hel
        have hpl : (P ++ S1 ++ [x]).length = P.length + S1.length + 1 := by simp; omega
        have hw : wi ((P.length : Int) + S1.length + 1) = ((P ++ S1 ++ [x]).length : Int) := by rw [wi_e (by omega) (by omega), hpl]; omega
        rw [hw]
        have hlist : P ++ (S1 ++ x :: S2) ++ T = (P ++ S1 ++ [x]) ++ S2 ++ T := by simp
        have hhi : (P.length : Int) + ((S1 ++ x :: S2).length : Nat) = ((P ++ S1 ++ [x]).length : Int) + S2.length := by rw [hpl]; simp; omega
        have hpx : x.path.take ((pre.length : Int) + y.length + 1).toNat = pre ++ (y ++ [47]) := by
          rw [hq, show pre ++ (y ++ 47 :: w) = (pre ++ (y ++ [47])) ++ w by simp, List.take_left']
          simp; omega
        have hxp : x.path.length = pre.length + (y.length + (w.length + 1)) := by rw [hq]; simp
        rw [hlist, hhi]
        refine Ok_ob1 (Ok.mono (group_ok (px := pre ++ (y ++ [47])) (by omega) (by omega) hpx (by omega) (by omega) (by omega) (by omega) rfl) (fun c5 hc5 => ?_))
        obtain ⟨G, S3, rfl, rfl, hG, hS3⟩ := hc5
        obtain ⟨hx0, hsub, hm1⟩ := hS1.sub hq hny hG
        have hlist2 : (P ++ S1 ++ [x]) ++ (G ++ S3) ++ T = (P ++ S1) ++ (x :: G) ++ (S3 ++ T) := by simp
        have hw3 : wi ((pre.length : Int) + y.length + 1) = ((pre ++ (y ++ [47])).length : Int) := by rw [wi_e (by omega) (by omega)]; simp; omega
        have hlo : (P.length : Int) + S1.length = ((P ++ S1).length : Int) := by simp
        have hh5 : ((P ++ S1 ++ [x]).length : Int) + G.length = ((P ++ S1).length : Int) + ((x :: G).length : Nat) := by simp; omega
        rw [hlist2, hw3, hh5]
        rw [List.length_append] at hl
        have hrec := build_ok m (n := n) (P := P ++ S1) (T := S3 ++ T) (by omega) hB.lt hm1 (by omega) hsub (by simp; omega) (by simp; omega)
        rw [← hlo] at hrec ⊢
        refine Ok_ob5 (Ok.mono hrec (fun r hr => ?_))
        obtain ⟨t2, s2, d2, A2, Q2, l2, g2, q2, hr⟩ := hr
        have hdir := fun i => BInv.dir (i := i) hfA hB hS1 hq hny hG hS3 l2 g2 q2
        have hqc := hB.qc
        rcases hr with ⟨rfl, hr⟩ | ⟨i, rfl, r1, r2, r3⟩
        · refine Ok_ite (fun _ => Ok_bs (Ok.some' (hQ _ (Ok.some' ?_)))) (fun e => absurd (show ¬ ((5 : Int) = 0) by decide) e)
          obtain ⟨k1, k2, _⟩ := hdir 0
          refine ⟨t2, s2, d2, A2, Q1 ++ Q2, l2, hB.gr.trans hfA g2, ⟨k1, fun q hq => ?_⟩, .inl ⟨rfl, by rw [List.length_append]; omega⟩⟩
          obtain ⟨a1, a2, z, hz, a3⟩ := k2 q hq
          refine ⟨a1, .inr ⟨z, ?_, a3⟩⟩
          rcases List.mem_append.1 hz with hz | hz
          · exact List.mem_append_left _ hz
          · refine List.mem_append_right _ ?_
            rcases List.mem_cons.1 hz with rfl | hz
            · simp
            · simp [hz]
        · refine Ok_ite (fun e => absurd rfl e) (fun _ => ?_)
          obtain ⟨k1, k2, k3⟩ := hdir i
          refine Ok_sSl (by omega) (by omega) (by simp; omega) ?_
          have hs1 : ((pre ++ (y ++ 47 :: w)).take ((pre.length : Int) + y.length).toNat).drop (pre.length : Int).toNat = y := by
            rw [show pre ++ (y ++ 47 :: w) = (pre ++ y) ++ 47 :: w by simp, List.take_left' (by simp; omega), Int.toNat_natCast, List.drop_left' rfl]
          rw [hs1]
          refine Ok_cl1 (appendRow_ok (by omega) (by omega) (by omega)) ?_
          refine ih _ _ _ _ _ ⟨A2, _, S1 ++ x :: G, S3, Q1 ++ Q2, by simp, by simp; omega, ?_, k3 r1 r2 r3⟩ (by simp; omega)
          rw [List.flatMap_append]; simp [encL]
end
end Go.Proofs.Qxb6500350aGreat
