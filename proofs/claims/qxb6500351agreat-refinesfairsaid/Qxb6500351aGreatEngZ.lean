/- A string turned into a slice of bytes; arrays of three numbers compared. -/
import Derived.Test.Qxb6500351aGreatEngU
set_option linter.unusedVariables false
set_option linter.unusedSimpArgs false
namespace Go.Eng
theorem St.freeze {w0 w : World} {K0 : List Nat} {S S' : SH} {b o : Nat} {cs : Array Value} {ty : TypeId} (h : St w0 K0 w S)
    (hr : Rep S S' (b, .cells cs ty (0, 0)) (b, .cells cs ty (o, o + 1))) : St w0 K0 (w.freeze ⟨b, o, none⟩ 1) S' := by
  have hb := h.1.2 _ hr.mem
  simp only at hb
  refine h.upd hr rfl rfl rfl (by simp only [World.freeze, Nat.one_ne_zero, if_false, Array.size_modify]) ?_ fun k hk => ?_
  · simp only [World.freeze, Nat.one_ne_zero, if_false, Array.getElem?_modify, hb, if_true, Option.map_some]
    rfl
  · simp only [World.freeze, Nat.one_ne_zero, if_false, Array.getElem?_modify]
    rw [if_neg (fun e => hk e.symm)]
def s2b (s : ByteArray) : List Int := s.data.toList.map fun b => (b.toNat : Int)
theorem s2b_len (s : ByteArray) : (s2b s).length = s.size := by unfold s2b; rw [List.length_map]; rfl
theorem s2b_bytes (s : ByteArray) : Bytes (s2b s) := fun x hx => by
  simp only [s2b, List.mem_map] at hx
  obtain ⟨b, _, rfl⟩ := hx
  have := b.toNat_lt
  omega
section
variable {c : Cx} {all : Array Oper} {rest : List Oper} {T L : Env} {S : SH} {Q : Env → SH → Prop} {ty : TypeId} {pos : String} {af : Array Edge}
theorem o_s2b {d : Nat} {x : Operand} {ts t e : TypeId} {s : ByteArray} (hs : c.P.underlying ts = some .string) (ht : c.P.underlying t = some (.slice e)) (h8 : c.P.underlying e = some (.int .u8)) (hx : gv (T ++ L) x = some (.string s)) (hb : s.size ≤ 140737488355328) (hd : Nat.blt d c.n = true)
    (h : ∀ b cap cs fz, BytAt 0 (s2b s).length cap cs (s2b s) → OkO c all rest ((d, .slice (some ⟨b, 0, none⟩) (s2b s).length cap) :: T) L ([(b, .cells cs e fz)] :: S) Q) :
    OkO c all (⟨some d, .convert ts t x, ty, pos, af, none⟩ :: rest) T L S Q := by
  intro Q' hQ a w he hw
  refine wpList_plain rfl fun K hK => ?_
  have g1 := he.gv hx
  have hge := grownCap_ge w s.size 0 e
  have hm := grownCap_le_maxLen w s.size 0 e (Nat.le_trans (by omega) bigLe)
  generalize hcap : grownCap w s.size 0 e = cap at hge hm
  unfold grownCap at hcap
  obtain ⟨cs, hcs⟩ : ∃ cs : Array Value, cs = (s.data.map fun b => Value.int .u8 b.toNat) ++ Array.replicate (cap - s.size) (.int .u8 0) := ⟨_, rfl⟩
  have hsz : cs.size = cap := by rw [hcs, Array.size_append, Array.size_map, Array.size_replicate]; show s.size + _ = _; omega
  have e1 : Sem.run c.P (Sem.choose (Question.appendCap s.size 0 e) Sem.pure) w = .ok cap w.drew := by rw [← hcap]; rfl
  have e2 : Sem.run c.P (Sem.new (Obj.cells cs e) Sem.pure) w.drew = .ok w.heap.size (w.drew.alloc (.cells cs e)) := rfl
  have hat : (w.drew.alloc (.cells cs e)).heap[w.heap.size]? = some (.cells cs e (0, 0)) := by
    show (w.heap.push _)[w.heap.size]? = _
    rw [Array.getElem?_push, if_pos rfl]
  have e3 : Sem.run c.P (Sem.shape w.heap.size Sem.pure) (w.drew.alloc (.cells cs e)) = .ok (some (e, cap)) (w.drew.alloc (.cells cs e)) := by
    show Result.ok ((w.drew.alloc (.cells cs e)).shape? w.heap.size) _ = _
    unfold World.shape?
    rw [hat]
    dsimp only
    rw [hsz]
  have e4 : Sem.run c.P (Sem.freeze { block := w.heap.size, off := cap } 1 (Sem.pure ())) (w.drew.alloc (.cells cs e)) = .ok () ((w.drew.alloc (.cells cs e)).freeze ⟨w.heap.size, cap, none⟩ 1) := rfl
  have h1 : (execOp a.eval ⟨some d, .convert ts t x, ty, pos, af, none⟩).run c.P w = .ok (.value (.slice (some ⟨w.heap.size, 0, none⟩) s.size cap)) ((w.drew.alloc (.cells cs e)).freeze ⟨w.heap.size, cap, none⟩ 1) := by
    generalize a.eval = ρ at *
    simp [execOp, go_sem, g1, convert, run_underlying hs, run_underlying ht, run_underlying h8, Conv.stringToBytes, choose, newRow, newObj, markStringish, shape, Go.freeze]
    rw [e1]
    dsimp only [Result.andThen]
    rw [← hcs, e2]
    dsimp only [Result.andThen]
    rw [e3]
    dsimp only [Result.andThen]
    rw [e4]
    rfl
  rw [Oper.wp, h1, Oper.upon_value, ← s2b_len s]
  have hw2 : St c.w0 c.K0 (w.drew.alloc (.cells cs e)) ([(w.heap.size, .cells cs e (0, 0))] :: S) := (hw.drawn rfl rfl rfl rfl : St c.w0 c.K0 w.drew S).new _
  have hw3 := hw2.freeze (S' := [(w.heap.size, .cells cs e (cap, cap + 1))] :: S) (o := cap) ⟨[], S.flatten, rfl, rfl⟩
  refine hK _ _ (h _ cap cs _ ⟨rfl, ?_, ?_, ?_, s2b_bytes s, ?_⟩ Q' hQ _ _ (he.putT _ hd) hw3)
  · rw [s2b_len, hsz]; omega
  · rw [s2b_len]; exact hge
  · have q : (s.data.map fun b => Value.int .u8 (b.toNat : Int)).toList = bV (s2b s) := by
      rw [Array.toList_map]; unfold bV s2b; rw [List.map_map]; rfl
    have q2 : (bV (s2b s)).length = s.size := by unfold bV; rw [List.length_map, s2b_len]
    rw [s2b_len, Nat.zero_add, hcs, Array.toList_extract, Array.toList_append, q]
    show ((bV (s2b s) ++ _).drop 0).take (s.size - 0) = _
    rw [List.drop_zero, Nat.sub_zero, ← q2, List.take_append_of_le_length (Nat.le_refl _), List.take_length]
  · rw [s2b_len]; exact hb
end
end Go.Eng
