/- MADE BY PROGRAM (tools350/ty.py): the program's structs in cells. -/
import Derived.Test.Qxb6500350aGreatN8
set_option linter.unusedVariables false
set_option linter.unusedSimpArgs false
namespace Go.Proofs.Qxb6500350aGreat
open Go.Eng
abbrev encI (x : Int) : List Value := [.int .i64 x]
abbrev encU (x : Int) : List Value := [.int .u64 x]
abbrev encW (x : Int) : List Value := [.int .u32 x]
abbrev encB (x : Bool) : List Value := [.bool x]
abbrev encS (x : Str) : List Value := [.string ⟨x.toArray⟩]
theorem encI_len (x : Int) : (encI x).length = 1 := rfl
theorem encU_len (x : Int) : (encU x).length = 1 := rfl
theorem encW_len (x : Int) : (encW x).length = 1 := rfl
theorem encB_len (x : Bool) : (encB x).length = 1 := rfl
theorem encS_len (x : Str) : (encS x).length = 1 := rfl
theorem enc8_len (x : UInt8) : (enc8 x).length = 1 := rfl
def rInt : Lay Int := flat 1 3 encI encI_len (fun _ => rfl)
def rBool : Lay Bool := flat 1 4 encB encB_len (fun _ => rfl)
def rStr : Lay Str := flat 1 9 encS encS_len (fun _ => rfl)
structure Op_ where
  kind : Int
  a : Int
  b : Int
  c : Int
  s : Str
  t : Str
deriving DecidableEq
def Op_.zero : Op_ := { kind := 0, a := 0, b := 0, c := 0, s := [], t := [] }
def Op_.enc (s : Op_) : List Value := (encI s.kind) ++ ((encI s.a) ++ ((encI s.b) ++ ((encI s.c) ++ ((encS s.s) ++ ((encS s.t))))))
theorem Op_.len (s : Op_) : (Op_.enc s).length = 6 := by simp [Op_.enc, enc8]
theorem Op_.plain (s : Op_) : (Op_.enc s).all plainV = true := (all2 rfl (all2 rfl (all2 rfl (all2 rfl (all2 rfl rfl)))))
theorem Op_.u_kind {s : Op_} {x : Int} : Upd (Op_.enc s) 0 (encI s.kind) (encI x) (Op_.enc { s with kind := x }) := ⟨[], (encI s.a) ++ ((encI s.b) ++ ((encI s.c) ++ ((encS s.s) ++ ((encS s.t))))), by simp [Op_.enc], by simp [Op_.enc], by simp [enc8], rfl⟩
theorem Op_.a_kind {s : Op_} : At (Op_.enc s) 0 (encI s.kind) := ⟨[], (encI s.a) ++ ((encI s.b) ++ ((encI s.c) ++ ((encS s.s) ++ ((encS s.t))))), by simp [Op_.enc], by simp [enc8]⟩
theorem Op_.u_a {s : Op_} {x : Int} : Upd (Op_.enc s) 1 (encI s.a) (encI x) (Op_.enc { s with a := x }) := ⟨(encI s.kind), (encI s.b) ++ ((encI s.c) ++ ((encS s.s) ++ ((encS s.t)))), by simp [Op_.enc], by simp [Op_.enc], by simp [enc8], rfl⟩
theorem Op_.a_a {s : Op_} : At (Op_.enc s) 1 (encI s.a) := ⟨(encI s.kind), (encI s.b) ++ ((encI s.c) ++ ((encS s.s) ++ ((encS s.t)))), by simp [Op_.enc], by simp [enc8]⟩
theorem Op_.u_b {s : Op_} {x : Int} : Upd (Op_.enc s) 2 (encI s.b) (encI x) (Op_.enc { s with b := x }) := ⟨(encI s.kind) ++ ((encI s.a)), (encI s.c) ++ ((encS s.s) ++ ((encS s.t))), by simp [Op_.enc], by simp [Op_.enc], by simp [enc8], rfl⟩
theorem Op_.a_b {s : Op_} : At (Op_.enc s) 2 (encI s.b) := ⟨(encI s.kind) ++ ((encI s.a)), (encI s.c) ++ ((encS s.s) ++ ((encS s.t))), by simp [Op_.enc], by simp [enc8]⟩
theorem Op_.u_c {s : Op_} {x : Int} : Upd (Op_.enc s) 3 (encI s.c) (encI x) (Op_.enc { s with c := x }) := ⟨(encI s.kind) ++ ((encI s.a) ++ ((encI s.b))), (encS s.s) ++ ((encS s.t)), by simp [Op_.enc], by simp [Op_.enc], by simp [enc8], rfl⟩
theorem Op_.a_c {s : Op_} : At (Op_.enc s) 3 (encI s.c) := ⟨(encI s.kind) ++ ((encI s.a) ++ ((encI s.b))), (encS s.s) ++ ((encS s.t)), by simp [Op_.enc], by simp [enc8]⟩
theorem Op_.u_s {s : Op_} {x : Str} : Upd (Op_.enc s) 4 (encS s.s) (encS x) (Op_.enc { s with s := x }) := ⟨(encI s.kind) ++ ((encI s.a) ++ ((encI s.b) ++ ((encI s.c)))), (encS s.t), by simp [Op_.enc], by simp [Op_.enc], by simp [enc8], rfl⟩
theorem Op_.a_s {s : Op_} : At (Op_.enc s) 4 (encS s.s) := ⟨(encI s.kind) ++ ((encI s.a) ++ ((encI s.b) ++ ((encI s.c)))), (encS s.t), by simp [Op_.enc], by simp [enc8]⟩
theorem Op_.u_t {s : Op_} {x : Str} : Upd (Op_.enc s) 5 (encS s.t) (encS x) (Op_.enc { s with t := x }) := ⟨(encI s.kind) ++ ((encI s.a) ++ ((encI s.b) ++ ((encI s.c) ++ ((encS s.s))))), [], by simp [Op_.enc], by simp [Op_.enc], by simp [enc8], rfl⟩
theorem Op_.a_t {s : Op_} : At (Op_.enc s) 5 (encS s.t) := ⟨(encI s.kind) ++ ((encI s.a) ++ ((encI s.b) ++ ((encI s.c) ++ ((encS s.s))))), [], by simp [Op_.enc], by simp [enc8]⟩
def rOp_ : Lay Op_ := flat 6 44 Op_.enc Op_.len (fun _ => rfl)
structure Head where
  name : Str
  seq : Int
  merge : Int
deriving DecidableEq
def Head.zero : Head := { name := [], seq := 0, merge := 0 }
def Head.enc (s : Head) : List Value := (encS s.name) ++ ((encI s.seq) ++ ((encI s.merge)))
theorem Head.len (s : Head) : (Head.enc s).length = 3 := by simp [Head.enc, enc8]
theorem Head.plain (s : Head) : (Head.enc s).all plainV = true := (all2 rfl (all2 rfl rfl))
theorem Head.u_name {s : Head} {x : Str} : Upd (Head.enc s) 0 (encS s.name) (encS x) (Head.enc { s with name := x }) := ⟨[], (encI s.seq) ++ ((encI s.merge)), by simp [Head.enc], by simp [Head.enc], by simp [enc8], rfl⟩
theorem Head.a_name {s : Head} : At (Head.enc s) 0 (encS s.name) := ⟨[], (encI s.seq) ++ ((encI s.merge)), by simp [Head.enc], by simp [enc8]⟩
theorem Head.u_seq {s : Head} {x : Int} : Upd (Head.enc s) 1 (encI s.seq) (encI x) (Head.enc { s with seq := x }) := ⟨(encS s.name), (encI s.merge), by simp [Head.enc], by simp [Head.enc], by simp [enc8], rfl⟩
theorem Head.a_seq {s : Head} : At (Head.enc s) 1 (encI s.seq) := ⟨(encS s.name), (encI s.merge), by simp [Head.enc], by simp [enc8]⟩
theorem Head.u_merge {s : Head} {x : Int} : Upd (Head.enc s) 2 (encI s.merge) (encI x) (Head.enc { s with merge := x }) := ⟨(encS s.name) ++ ((encI s.seq)), [], by simp [Head.enc], by simp [Head.enc], by simp [enc8], rfl⟩
theorem Head.a_merge {s : Head} : At (Head.enc s) 2 (encI s.merge) := ⟨(encS s.name) ++ ((encI s.seq)), [], by simp [Head.enc], by simp [enc8]⟩
def rHead : Lay Head := flat 3 54 Head.enc Head.len (fun _ => rfl)
structure File where
  path : Str
  data : Str
  mode : Int
deriving DecidableEq
def File.zero : File := { path := [], data := [], mode := 0 }
def File.enc (s : File) : List Value := (encS s.path) ++ ((encS s.data) ++ ((encI s.mode)))
theorem File.len (s : File) : (File.enc s).length = 3 := by simp [File.enc, enc8]
theorem File.plain (s : File) : (File.enc s).all plainV = true := (all2 rfl (all2 rfl rfl))
theorem File.u_path {s : File} {x : Str} : Upd (File.enc s) 0 (encS s.path) (encS x) (File.enc { s with path := x }) := ⟨[], (encS s.data) ++ ((encI s.mode)), by simp [File.enc], by simp [File.enc], by simp [enc8], rfl⟩
theorem File.a_path {s : File} : At (File.enc s) 0 (encS s.path) := ⟨[], (encS s.data) ++ ((encI s.mode)), by simp [File.enc], by simp [enc8]⟩
theorem File.u_data {s : File} {x : Str} : Upd (File.enc s) 1 (encS s.data) (encS x) (File.enc { s with data := x }) := ⟨(encS s.path), (encI s.mode), by simp [File.enc], by simp [File.enc], by simp [enc8], rfl⟩
theorem File.a_data {s : File} : At (File.enc s) 1 (encS s.data) := ⟨(encS s.path), (encI s.mode), by simp [File.enc], by simp [enc8]⟩
theorem File.u_mode {s : File} {x : Int} : Upd (File.enc s) 2 (encI s.mode) (encI x) (File.enc { s with mode := x }) := ⟨(encS s.path) ++ ((encS s.data)), [], by simp [File.enc], by simp [File.enc], by simp [enc8], rfl⟩
theorem File.a_mode {s : File} : At (File.enc s) 2 (encI s.mode) := ⟨(encS s.path) ++ ((encS s.data)), [], by simp [File.enc], by simp [enc8]⟩
def rFile : Lay File := flat 3 71 File.enc File.len (fun _ => rfl)
structure Node where
  seq : Int
  files : (List File)
  parents : (List Int)
  msg : Str
deriving DecidableEq
def Node.zero : Node := { seq := 0, files := [], parents := [], msg := [] }
def Node.enc (p_files : Value) (p_parents : Value) (s : Node) : List Value := (encI s.seq) ++ ([p_files] ++ ([p_parents] ++ ((encS s.msg))))
theorem Node.len (p_files : Value) (p_parents : Value) (s : Node) : (Node.enc p_files p_parents s).length = 4 := by simp [Node.enc, enc8]
theorem Node.plain {p_files : Value} {p_parents : Value} (h_p_files : plainV p_files = true) (h_p_parents : plainV p_parents = true) (s : Node) : (Node.enc p_files p_parents s).all plainV = true := (all2 rfl (all2 (all1 h_p_files) (all2 (all1 h_p_parents) rfl)))
theorem Node.u_seq {p_files : Value} {p_parents : Value} {s : Node} {x : Int} : Upd (Node.enc p_files p_parents s) 0 (encI s.seq) (encI x) (Node.enc p_files p_parents { s with seq := x }) := ⟨[], [p_files] ++ ([p_parents] ++ ((encS s.msg))), by simp [Node.enc], by simp [Node.enc], by simp [enc8], rfl⟩
theorem Node.a_seq {p_files : Value} {p_parents : Value} {s : Node} : At (Node.enc p_files p_parents s) 0 (encI s.seq) := ⟨[], [p_files] ++ ([p_parents] ++ ((encS s.msg))), by simp [Node.enc], by simp [enc8]⟩
theorem Node.u_files {p_files : Value} {p_parents : Value} {s : Node} {v : Value} : Upd (Node.enc p_files p_parents s) 1 [p_files] [v] (Node.enc v p_parents s) := ⟨(encI s.seq), [p_parents] ++ ((encS s.msg)), by simp [Node.enc], by simp [Node.enc], by simp [enc8], rfl⟩
theorem Node.a_files {p_files : Value} {p_parents : Value} {s : Node} : At (Node.enc p_files p_parents s) 1 [p_files] := ⟨(encI s.seq), [p_parents] ++ ((encS s.msg)), by simp [Node.enc], by simp [enc8]⟩
theorem Node.u_parents {p_files : Value} {p_parents : Value} {s : Node} {v : Value} : Upd (Node.enc p_files p_parents s) 2 [p_parents] [v] (Node.enc p_files v s) := ⟨(encI s.seq) ++ ([p_files]), (encS s.msg), by simp [Node.enc], by simp [Node.enc], by simp [enc8], rfl⟩
theorem Node.a_parents {p_files : Value} {p_parents : Value} {s : Node} : At (Node.enc p_files p_parents s) 2 [p_parents] := ⟨(encI s.seq) ++ ([p_files]), (encS s.msg), by simp [Node.enc], by simp [enc8]⟩
theorem Node.u_msg {p_files : Value} {p_parents : Value} {s : Node} {x : Str} : Upd (Node.enc p_files p_parents s) 3 (encS s.msg) (encS x) (Node.enc p_files p_parents { s with msg := x }) := ⟨(encI s.seq) ++ ([p_files] ++ ([p_parents])), [], by simp [Node.enc], by simp [Node.enc], by simp [enc8], rfl⟩
theorem Node.a_msg {p_files : Value} {p_parents : Value} {s : Node} : At (Node.enc p_files p_parents s) 3 (encS s.msg) := ⟨(encI s.seq) ++ ([p_files] ++ ([p_parents])), [], by simp [Node.enc], by simp [enc8]⟩
def rNode : Lay Node where
  sz := 4
  ty := 93
  rd := fun C vs x => ∃ p_files p_parents, vs = Node.enc p_files p_parents x ∧ Rd rFile C p_files x.files ∧ Rd rInt C p_parents x.parents
  len := fun ⟨_, _, h, _⟩ => by rw [h]; exact Node.len _ _ _
  mono := fun hC ⟨v, w, h, k1, k2⟩ => ⟨v, w, h, k1.mono hC, k2.mono hC⟩
  plain := fun ⟨v, w, h, k1, k2⟩ => by
    obtain ⟨_, _, rfl⟩ := k1.slice
    obtain ⟨_, _, rfl⟩ := k2.slice
    rw [h]; rfl
structure Ref_ where
  name : Str
  seq : Int
deriving DecidableEq
def Ref_.zero : Ref_ := { name := [], seq := 0 }
def Ref_.enc (s : Ref_) : List Value := (encS s.name) ++ ((encI s.seq))
theorem Ref_.len (s : Ref_) : (Ref_.enc s).length = 2 := by simp [Ref_.enc, enc8]
theorem Ref_.plain (s : Ref_) : (Ref_.enc s).all plainV = true := (all2 rfl rfl)
theorem Ref_.u_name {s : Ref_} {x : Str} : Upd (Ref_.enc s) 0 (encS s.name) (encS x) (Ref_.enc { s with name := x }) := ⟨[], (encI s.seq), by simp [Ref_.enc], by simp [Ref_.enc], by simp [enc8], rfl⟩
theorem Ref_.a_name {s : Ref_} : At (Ref_.enc s) 0 (encS s.name) := ⟨[], (encI s.seq), by simp [Ref_.enc], by simp [enc8]⟩
theorem Ref_.u_seq {s : Ref_} {x : Int} : Upd (Ref_.enc s) 1 (encI s.seq) (encI x) (Ref_.enc { s with seq := x }) := ⟨(encS s.name), [], by simp [Ref_.enc], by simp [Ref_.enc], by simp [enc8], rfl⟩
theorem Ref_.a_seq {s : Ref_} : At (Ref_.enc s) 1 (encI s.seq) := ⟨(encS s.name), [], by simp [Ref_.enc], by simp [enc8]⟩
def rRef_ : Lay Ref_ := flat 2 96 Ref_.enc Ref_.len (fun _ => rfl)
structure Chg where
  path : Str
  staged : Int
  work : Int
deriving DecidableEq
def Chg.zero : Chg := { path := [], staged := 0, work := 0 }
def Chg.enc (s : Chg) : List Value := (encS s.path) ++ ((encI s.staged) ++ ((encI s.work)))
theorem Chg.len (s : Chg) : (Chg.enc s).length = 3 := by simp [Chg.enc, enc8]
theorem Chg.plain (s : Chg) : (Chg.enc s).all plainV = true := (all2 rfl (all2 rfl rfl))
theorem Chg.u_path {s : Chg} {x : Str} : Upd (Chg.enc s) 0 (encS s.path) (encS x) (Chg.enc { s with path := x }) := ⟨[], (encI s.staged) ++ ((encI s.work)), by simp [Chg.enc], by simp [Chg.enc], by simp [enc8], rfl⟩
theorem Chg.a_path {s : Chg} : At (Chg.enc s) 0 (encS s.path) := ⟨[], (encI s.staged) ++ ((encI s.work)), by simp [Chg.enc], by simp [enc8]⟩
theorem Chg.u_staged {s : Chg} {x : Int} : Upd (Chg.enc s) 1 (encI s.staged) (encI x) (Chg.enc { s with staged := x }) := ⟨(encS s.path), (encI s.work), by simp [Chg.enc], by simp [Chg.enc], by simp [enc8], rfl⟩
theorem Chg.a_staged {s : Chg} : At (Chg.enc s) 1 (encI s.staged) := ⟨(encS s.path), (encI s.work), by simp [Chg.enc], by simp [enc8]⟩
theorem Chg.u_work {s : Chg} {x : Int} : Upd (Chg.enc s) 2 (encI s.work) (encI x) (Chg.enc { s with work := x }) := ⟨(encS s.path) ++ ((encI s.staged)), [], by simp [Chg.enc], by simp [Chg.enc], by simp [enc8], rfl⟩
theorem Chg.a_work {s : Chg} : At (Chg.enc s) 2 (encI s.work) := ⟨(encS s.path) ++ ((encI s.staged)), [], by simp [Chg.enc], by simp [enc8]⟩
def rChg : Lay Chg := flat 3 196 Chg.enc Chg.len (fun _ => rfl)
structure Hunk where
  at_ : Int
  del : (List Str)
  ins : (List Str)
deriving DecidableEq
def Hunk.zero : Hunk := { at_ := 0, del := [], ins := [] }
def Hunk.enc (p_del : Value) (p_ins : Value) (s : Hunk) : List Value := (encI s.at_) ++ ([p_del] ++ ([p_ins]))
theorem Hunk.len (p_del : Value) (p_ins : Value) (s : Hunk) : (Hunk.enc p_del p_ins s).length = 3 := by simp [Hunk.enc, enc8]
theorem Hunk.plain {p_del : Value} {p_ins : Value} (h_p_del : plainV p_del = true) (h_p_ins : plainV p_ins = true) (s : Hunk) : (Hunk.enc p_del p_ins s).all plainV = true := (all2 rfl (all2 (all1 h_p_del) (all1 h_p_ins)))
theorem Hunk.u_at_ {p_del : Value} {p_ins : Value} {s : Hunk} {x : Int} : Upd (Hunk.enc p_del p_ins s) 0 (encI s.at_) (encI x) (Hunk.enc p_del p_ins { s with at_ := x }) := ⟨[], [p_del] ++ ([p_ins]), by simp [Hunk.enc], by simp [Hunk.enc], by simp [enc8], rfl⟩
theorem Hunk.a_at_ {p_del : Value} {p_ins : Value} {s : Hunk} : At (Hunk.enc p_del p_ins s) 0 (encI s.at_) := ⟨[], [p_del] ++ ([p_ins]), by simp [Hunk.enc], by simp [enc8]⟩
theorem Hunk.u_del {p_del : Value} {p_ins : Value} {s : Hunk} {v : Value} : Upd (Hunk.enc p_del p_ins s) 1 [p_del] [v] (Hunk.enc v p_ins s) := ⟨(encI s.at_), [p_ins], by simp [Hunk.enc], by simp [Hunk.enc], by simp [enc8], rfl⟩
theorem Hunk.a_del {p_del : Value} {p_ins : Value} {s : Hunk} : At (Hunk.enc p_del p_ins s) 1 [p_del] := ⟨(encI s.at_), [p_ins], by simp [Hunk.enc], by simp [enc8]⟩
theorem Hunk.u_ins {p_del : Value} {p_ins : Value} {s : Hunk} {v : Value} : Upd (Hunk.enc p_del p_ins s) 2 [p_ins] [v] (Hunk.enc p_del v s) := ⟨(encI s.at_) ++ ([p_del]), [], by simp [Hunk.enc], by simp [Hunk.enc], by simp [enc8], rfl⟩
theorem Hunk.a_ins {p_del : Value} {p_ins : Value} {s : Hunk} : At (Hunk.enc p_del p_ins s) 2 [p_ins] := ⟨(encI s.at_) ++ ([p_del]), [], by simp [Hunk.enc], by simp [enc8]⟩
def rHunk : Lay Hunk where
  sz := 3
  ty := 203
  rd := fun C vs x => ∃ p_del p_ins, vs = Hunk.enc p_del p_ins x ∧ RdS rStr C p_del x.del ∧ RdS rStr C p_ins x.ins
  len := fun ⟨_, _, h, _⟩ => by rw [h]; exact Hunk.len _ _ _
  mono := fun hC ⟨v, w, h, k1, k2⟩ => ⟨v, w, h, k1.mono hC, k2.mono hC⟩
  plain := fun ⟨v, w, h, k1, k2⟩ => by
    obtain ⟨_, _, rfl⟩ := k1.1.slice
    obtain ⟨_, _, rfl⟩ := k2.1.slice
    rw [h]; rfl
structure Line where
  dir : Bool
  mode : Int
  id : Int
  name : Str
deriving DecidableEq
def Line.zero : Line := { dir := false, mode := 0, id := 0, name := [] }
def Line.enc (s : Line) : List Value := (encB s.dir) ++ ((encI s.mode) ++ ((encI s.id) ++ ((encS s.name))))
theorem Line.len (s : Line) : (Line.enc s).length = 4 := by simp [Line.enc, enc8]
theorem Line.plain (s : Line) : (Line.enc s).all plainV = true := (all2 rfl (all2 rfl (all2 rfl rfl)))
theorem Line.u_dir {s : Line} {x : Bool} : Upd (Line.enc s) 0 (encB s.dir) (encB x) (Line.enc { s with dir := x }) := ⟨[], (encI s.mode) ++ ((encI s.id) ++ ((encS s.name))), by simp [Line.enc], by simp [Line.enc], by simp [enc8], rfl⟩
theorem Line.a_dir {s : Line} : At (Line.enc s) 0 (encB s.dir) := ⟨[], (encI s.mode) ++ ((encI s.id) ++ ((encS s.name))), by simp [Line.enc], by simp [enc8]⟩
theorem Line.u_mode {s : Line} {x : Int} : Upd (Line.enc s) 1 (encI s.mode) (encI x) (Line.enc { s with mode := x }) := ⟨(encB s.dir), (encI s.id) ++ ((encS s.name)), by simp [Line.enc], by simp [Line.enc], by simp [enc8], rfl⟩
theorem Line.a_mode {s : Line} : At (Line.enc s) 1 (encI s.mode) := ⟨(encB s.dir), (encI s.id) ++ ((encS s.name)), by simp [Line.enc], by simp [enc8]⟩
theorem Line.u_id {s : Line} {x : Int} : Upd (Line.enc s) 2 (encI s.id) (encI x) (Line.enc { s with id := x }) := ⟨(encB s.dir) ++ ((encI s.mode)), (encS s.name), by simp [Line.enc], by simp [Line.enc], by simp [enc8], rfl⟩
theorem Line.a_id {s : Line} : At (Line.enc s) 2 (encI s.id) := ⟨(encB s.dir) ++ ((encI s.mode)), (encS s.name), by simp [Line.enc], by simp [enc8]⟩
theorem Line.u_name {s : Line} {x : Str} : Upd (Line.enc s) 3 (encS s.name) (encS x) (Line.enc { s with name := x }) := ⟨(encB s.dir) ++ ((encI s.mode) ++ ((encI s.id))), [], by simp [Line.enc], by simp [Line.enc], by simp [enc8], rfl⟩
theorem Line.a_name {s : Line} : At (Line.enc s) 3 (encS s.name) := ⟨(encB s.dir) ++ ((encI s.mode) ++ ((encI s.id))), [], by simp [Line.enc], by simp [enc8]⟩
def rLine : Lay Line := flat 4 213 Line.enc Line.len (fun _ => rfl)
structure Row_ where
  f : File
  size : Int
  hash : Int
deriving DecidableEq
def Row_.zero : Row_ := { f := File.zero, size := 0, hash := 0 }
def Row_.enc (s : Row_) : List Value := (File.enc s.f) ++ ((encI s.size) ++ ((encI s.hash)))
theorem Row_.len (s : Row_) : (Row_.enc s).length = 5 := by simp [Row_.enc, File.len, enc8]
theorem Row_.plain (s : Row_) : (Row_.enc s).all plainV = true := (all2 (File.plain _) (all2 rfl rfl))
theorem Row_.u_f {s : Row_} {x : File} : Upd (Row_.enc s) 0 (File.enc s.f) (File.enc x) (Row_.enc { s with f := x }) := ⟨[], (encI s.size) ++ ((encI s.hash)), by simp [Row_.enc], by simp [Row_.enc], by simp [File.len, enc8], by simp [File.len, enc8]⟩
theorem Row_.a_f {s : Row_} : At (Row_.enc s) 0 (File.enc s.f) := ⟨[], (encI s.size) ++ ((encI s.hash)), by simp [Row_.enc], by simp [File.len, enc8]⟩
theorem Row_.u_size {s : Row_} {x : Int} : Upd (Row_.enc s) 3 (encI s.size) (encI x) (Row_.enc { s with size := x }) := ⟨(File.enc s.f), (encI s.hash), by simp [Row_.enc], by simp [Row_.enc], by simp [File.len, enc8], rfl⟩
theorem Row_.a_size {s : Row_} : At (Row_.enc s) 3 (encI s.size) := ⟨(File.enc s.f), (encI s.hash), by simp [Row_.enc], by simp [File.len, enc8]⟩
theorem Row_.u_hash {s : Row_} {x : Int} : Upd (Row_.enc s) 4 (encI s.hash) (encI x) (Row_.enc { s with hash := x }) := ⟨(File.enc s.f) ++ ((encI s.size)), [], by simp [Row_.enc], by simp [Row_.enc], by simp [File.len, enc8], rfl⟩
theorem Row_.a_hash {s : Row_} : At (Row_.enc s) 4 (encI s.hash) := ⟨(File.enc s.f) ++ ((encI s.size)), [], by simp [Row_.enc], by simp [File.len, enc8]⟩
def rRow_ : Lay Row_ := flat 5 224 Row_.enc Row_.len (fun _ => rfl)
structure Entry where
  path : Str
  id : Int
  mode : Int
deriving DecidableEq
def Entry.zero : Entry := { path := [], id := 0, mode := 0 }
def Entry.enc (s : Entry) : List Value := (encS s.path) ++ ((encI s.id) ++ ((encI s.mode)))
theorem Entry.len (s : Entry) : (Entry.enc s).length = 3 := by simp [Entry.enc, enc8]
theorem Entry.plain (s : Entry) : (Entry.enc s).all plainV = true := (all2 rfl (all2 rfl rfl))
theorem Entry.u_path {s : Entry} {x : Str} : Upd (Entry.enc s) 0 (encS s.path) (encS x) (Entry.enc { s with path := x }) := ⟨[], (encI s.id) ++ ((encI s.mode)), by simp [Entry.enc], by simp [Entry.enc], by simp [enc8], rfl⟩
theorem Entry.a_path {s : Entry} : At (Entry.enc s) 0 (encS s.path) := ⟨[], (encI s.id) ++ ((encI s.mode)), by simp [Entry.enc], by simp [enc8]⟩
theorem Entry.u_id {s : Entry} {x : Int} : Upd (Entry.enc s) 1 (encI s.id) (encI x) (Entry.enc { s with id := x }) := ⟨(encS s.path), (encI s.mode), by simp [Entry.enc], by simp [Entry.enc], by simp [enc8], rfl⟩
theorem Entry.a_id {s : Entry} : At (Entry.enc s) 1 (encI s.id) := ⟨(encS s.path), (encI s.mode), by simp [Entry.enc], by simp [enc8]⟩
theorem Entry.u_mode {s : Entry} {x : Int} : Upd (Entry.enc s) 2 (encI s.mode) (encI x) (Entry.enc { s with mode := x }) := ⟨(encS s.path) ++ ((encI s.id)), [], by simp [Entry.enc], by simp [Entry.enc], by simp [enc8], rfl⟩
theorem Entry.a_mode {s : Entry} : At (Entry.enc s) 2 (encI s.mode) := ⟨(encS s.path) ++ ((encI s.id)), [], by simp [Entry.enc], by simp [enc8]⟩
def rEntry : Lay Entry := flat 3 279 Entry.enc Entry.len (fun _ => rfl)
structure Entr where
  state : Int
  kind : Int
  size : Int
  first : Int
  hash : Int
  nxt : Int
deriving DecidableEq
def Entr.zero : Entr := { state := 0, kind := 0, size := 0, first := 0, hash := 0, nxt := 0 }
def Entr.enc (s : Entr) : List Value := (encI s.state) ++ ((encI s.kind) ++ ((encI s.size) ++ ((encI s.first) ++ ((encW s.hash) ++ ((encI s.nxt))))))
theorem Entr.len (s : Entr) : (Entr.enc s).length = 6 := by simp [Entr.enc, enc8]
theorem Entr.plain (s : Entr) : (Entr.enc s).all plainV = true := (all2 rfl (all2 rfl (all2 rfl (all2 rfl (all2 rfl rfl)))))
theorem Entr.u_state {s : Entr} {x : Int} : Upd (Entr.enc s) 0 (encI s.state) (encI x) (Entr.enc { s with state := x }) := ⟨[], (encI s.kind) ++ ((encI s.size) ++ ((encI s.first) ++ ((encW s.hash) ++ ((encI s.nxt))))), by simp [Entr.enc], by simp [Entr.enc], by simp [enc8], rfl⟩
theorem Entr.a_state {s : Entr} : At (Entr.enc s) 0 (encI s.state) := ⟨[], (encI s.kind) ++ ((encI s.size) ++ ((encI s.first) ++ ((encW s.hash) ++ ((encI s.nxt))))), by simp [Entr.enc], by simp [enc8]⟩
theorem Entr.u_kind {s : Entr} {x : Int} : Upd (Entr.enc s) 1 (encI s.kind) (encI x) (Entr.enc { s with kind := x }) := ⟨(encI s.state), (encI s.size) ++ ((encI s.first) ++ ((encW s.hash) ++ ((encI s.nxt)))), by simp [Entr.enc], by simp [Entr.enc], by simp [enc8], rfl⟩
theorem Entr.a_kind {s : Entr} : At (Entr.enc s) 1 (encI s.kind) := ⟨(encI s.state), (encI s.size) ++ ((encI s.first) ++ ((encW s.hash) ++ ((encI s.nxt)))), by simp [Entr.enc], by simp [enc8]⟩
theorem Entr.u_size {s : Entr} {x : Int} : Upd (Entr.enc s) 2 (encI s.size) (encI x) (Entr.enc { s with size := x }) := ⟨(encI s.state) ++ ((encI s.kind)), (encI s.first) ++ ((encW s.hash) ++ ((encI s.nxt))), by simp [Entr.enc], by simp [Entr.enc], by simp [enc8], rfl⟩
theorem Entr.a_size {s : Entr} : At (Entr.enc s) 2 (encI s.size) := ⟨(encI s.state) ++ ((encI s.kind)), (encI s.first) ++ ((encW s.hash) ++ ((encI s.nxt))), by simp [Entr.enc], by simp [enc8]⟩
theorem Entr.u_first {s : Entr} {x : Int} : Upd (Entr.enc s) 3 (encI s.first) (encI x) (Entr.enc { s with first := x }) := ⟨(encI s.state) ++ ((encI s.kind) ++ ((encI s.size))), (encW s.hash) ++ ((encI s.nxt)), by simp [Entr.enc], by simp [Entr.enc], by simp [enc8], rfl⟩
theorem Entr.a_first {s : Entr} : At (Entr.enc s) 3 (encI s.first) := ⟨(encI s.state) ++ ((encI s.kind) ++ ((encI s.size))), (encW s.hash) ++ ((encI s.nxt)), by simp [Entr.enc], by simp [enc8]⟩
theorem Entr.u_hash {s : Entr} {x : Int} : Upd (Entr.enc s) 4 (encW s.hash) (encW x) (Entr.enc { s with hash := x }) := ⟨(encI s.state) ++ ((encI s.kind) ++ ((encI s.size) ++ ((encI s.first)))), (encI s.nxt), by simp [Entr.enc], by simp [Entr.enc], by simp [enc8], rfl⟩
theorem Entr.a_hash {s : Entr} : At (Entr.enc s) 4 (encW s.hash) := ⟨(encI s.state) ++ ((encI s.kind) ++ ((encI s.size) ++ ((encI s.first)))), (encI s.nxt), by simp [Entr.enc], by simp [enc8]⟩
theorem Entr.u_nxt {s : Entr} {x : Int} : Upd (Entr.enc s) 5 (encI s.nxt) (encI x) (Entr.enc { s with nxt := x }) := ⟨(encI s.state) ++ ((encI s.kind) ++ ((encI s.size) ++ ((encI s.first) ++ ((encW s.hash))))), [], by simp [Entr.enc], by simp [Entr.enc], by simp [enc8], rfl⟩
theorem Entr.a_nxt {s : Entr} : At (Entr.enc s) 5 (encI s.nxt) := ⟨(encI s.state) ++ ((encI s.kind) ++ ((encI s.size) ++ ((encI s.first) ++ ((encW s.hash))))), [], by simp [Entr.enc], by simp [enc8]⟩
structure Com where
  used : Bool
  seq : Int
  tree : Int
  np : Int
  par : (Int → Int)
def Com.zero : Com := { used := false, seq := 0, tree := 0, np := 0, par := (fun _ => 0) }
def Com.enc (s : Com) : List Value := (encB s.used) ++ ((encI s.seq) ++ ((encI s.tree) ++ ((encI s.np) ++ ((encN encI s.par 2)))))
theorem Com.len (s : Com) : (Com.enc s).length = 6 := by simp [Com.enc, encN_len encI_len, encI_len, enc8]
theorem Com.plain (s : Com) : (Com.enc s).all plainV = true := (all2 rfl (all2 rfl (all2 rfl (all2 rfl (encN_plain (fun _ => rfl) _ _)))))
theorem Com.u_used {s : Com} {x : Bool} : Upd (Com.enc s) 0 (encB s.used) (encB x) (Com.enc { s with used := x }) := ⟨[], (encI s.seq) ++ ((encI s.tree) ++ ((encI s.np) ++ ((encN encI s.par 2)))), by simp [Com.enc], by simp [Com.enc], by simp [encN_len encI_len, encI_len, enc8], rfl⟩
theorem Com.a_used {s : Com} : At (Com.enc s) 0 (encB s.used) := ⟨[], (encI s.seq) ++ ((encI s.tree) ++ ((encI s.np) ++ ((encN encI s.par 2)))), by simp [Com.enc], by simp [encN_len encI_len, encI_len, enc8]⟩
theorem Com.u_seq {s : Com} {x : Int} : Upd (Com.enc s) 1 (encI s.seq) (encI x) (Com.enc { s with seq := x }) := ⟨(encB s.used), (encI s.tree) ++ ((encI s.np) ++ ((encN encI s.par 2))), by simp [Com.enc], by simp [Com.enc], by simp [encN_len encI_len, encI_len, enc8], rfl⟩
theorem Com.a_seq {s : Com} : At (Com.enc s) 1 (encI s.seq) := ⟨(encB s.used), (encI s.tree) ++ ((encI s.np) ++ ((encN encI s.par 2))), by simp [Com.enc], by simp [encN_len encI_len, encI_len, enc8]⟩
theorem Com.u_tree {s : Com} {x : Int} : Upd (Com.enc s) 2 (encI s.tree) (encI x) (Com.enc { s with tree := x }) := ⟨(encB s.used) ++ ((encI s.seq)), (encI s.np) ++ ((encN encI s.par 2)), by simp [Com.enc], by simp [Com.enc], by simp [encN_len encI_len, encI_len, enc8], rfl⟩
theorem Com.a_tree {s : Com} : At (Com.enc s) 2 (encI s.tree) := ⟨(encB s.used) ++ ((encI s.seq)), (encI s.np) ++ ((encN encI s.par 2)), by simp [Com.enc], by simp [encN_len encI_len, encI_len, enc8]⟩
theorem Com.u_np {s : Com} {x : Int} : Upd (Com.enc s) 3 (encI s.np) (encI x) (Com.enc { s with np := x }) := ⟨(encB s.used) ++ ((encI s.seq) ++ ((encI s.tree))), (encN encI s.par 2), by simp [Com.enc], by simp [Com.enc], by simp [encN_len encI_len, encI_len, enc8], rfl⟩
theorem Com.a_np {s : Com} : At (Com.enc s) 3 (encI s.np) := ⟨(encB s.used) ++ ((encI s.seq) ++ ((encI s.tree))), (encN encI s.par 2), by simp [Com.enc], by simp [encN_len encI_len, encI_len, enc8]⟩
theorem Com.u_par {s : Com} {x : (Int → Int)} : Upd (Com.enc s) 4 (encN encI s.par 2) (encN encI x 2) (Com.enc { s with par := x }) := ⟨(encB s.used) ++ ((encI s.seq) ++ ((encI s.tree) ++ ((encI s.np)))), [], by simp [Com.enc], by simp [Com.enc], by simp [encN_len encI_len, encI_len, enc8], by simp [encN_len encI_len, encI_len, enc8]⟩
theorem Com.a_par {s : Com} : At (Com.enc s) 4 (encN encI s.par 2) := ⟨(encB s.used) ++ ((encI s.seq) ++ ((encI s.tree) ++ ((encI s.np)))), [], by simp [Com.enc], by simp [encN_len encI_len, encI_len, enc8]⟩
structure Brn where
  name : Str
  id : Int
deriving DecidableEq
def Brn.zero : Brn := { name := [], id := 0 }
def Brn.enc (s : Brn) : List Value := (encS s.name) ++ ((encI s.id))
theorem Brn.len (s : Brn) : (Brn.enc s).length = 2 := by simp [Brn.enc, enc8]
theorem Brn.plain (s : Brn) : (Brn.enc s).all plainV = true := (all2 rfl rfl)
theorem Brn.u_name {s : Brn} {x : Str} : Upd (Brn.enc s) 0 (encS s.name) (encS x) (Brn.enc { s with name := x }) := ⟨[], (encI s.id), by simp [Brn.enc], by simp [Brn.enc], by simp [enc8], rfl⟩
theorem Brn.a_name {s : Brn} : At (Brn.enc s) 0 (encS s.name) := ⟨[], (encI s.id), by simp [Brn.enc], by simp [enc8]⟩
theorem Brn.u_id {s : Brn} {x : Int} : Upd (Brn.enc s) 1 (encI s.id) (encI x) (Brn.enc { s with id := x }) := ⟨(encS s.name), [], by simp [Brn.enc], by simp [Brn.enc], by simp [enc8], rfl⟩
theorem Brn.a_id {s : Brn} : At (Brn.enc s) 1 (encI s.id) := ⟨(encS s.name), [], by simp [Brn.enc], by simp [enc8]⟩
structure Nod where
  name : Str
  child : Int
  nxt : Int
  file : Bool
  data : Str
  mode : Int
  size : Int
  hash : Int
deriving DecidableEq
def Nod.zero : Nod := { name := [], child := 0, nxt := 0, file := false, data := [], mode := 0, size := 0, hash := 0 }
def Nod.enc (s : Nod) : List Value := (encS s.name) ++ ((encI s.child) ++ ((encI s.nxt) ++ ((encB s.file) ++ ((encS s.data) ++ ((encI s.mode) ++ ((encI s.size) ++ ((encI s.hash))))))))
theorem Nod.len (s : Nod) : (Nod.enc s).length = 8 := by simp [Nod.enc, enc8]
theorem Nod.plain (s : Nod) : (Nod.enc s).all plainV = true := (all2 rfl (all2 rfl (all2 rfl (all2 rfl (all2 rfl (all2 rfl (all2 rfl rfl)))))))
theorem Nod.u_name {s : Nod} {x : Str} : Upd (Nod.enc s) 0 (encS s.name) (encS x) (Nod.enc { s with name := x }) := ⟨[], (encI s.child) ++ ((encI s.nxt) ++ ((encB s.file) ++ ((encS s.data) ++ ((encI s.mode) ++ ((encI s.size) ++ ((encI s.hash))))))), by simp [Nod.enc], by simp [Nod.enc], by simp [enc8], rfl⟩
theorem Nod.a_name {s : Nod} : At (Nod.enc s) 0 (encS s.name) := ⟨[], (encI s.child) ++ ((encI s.nxt) ++ ((encB s.file) ++ ((encS s.data) ++ ((encI s.mode) ++ ((encI s.size) ++ ((encI s.hash))))))), by simp [Nod.enc], by simp [enc8]⟩
theorem Nod.u_child {s : Nod} {x : Int} : Upd (Nod.enc s) 1 (encI s.child) (encI x) (Nod.enc { s with child := x }) := ⟨(encS s.name), (encI s.nxt) ++ ((encB s.file) ++ ((encS s.data) ++ ((encI s.mode) ++ ((encI s.size) ++ ((encI s.hash)))))), by simp [Nod.enc], by simp [Nod.enc], by simp [enc8], rfl⟩
theorem Nod.a_child {s : Nod} : At (Nod.enc s) 1 (encI s.child) := ⟨(encS s.name), (encI s.nxt) ++ ((encB s.file) ++ ((encS s.data) ++ ((encI s.mode) ++ ((encI s.size) ++ ((encI s.hash)))))), by simp [Nod.enc], by simp [enc8]⟩
theorem Nod.u_nxt {s : Nod} {x : Int} : Upd (Nod.enc s) 2 (encI s.nxt) (encI x) (Nod.enc { s with nxt := x }) := ⟨(encS s.name) ++ ((encI s.child)), (encB s.file) ++ ((encS s.data) ++ ((encI s.mode) ++ ((encI s.size) ++ ((encI s.hash))))), by simp [Nod.enc], by simp [Nod.enc], by simp [enc8], rfl⟩
theorem Nod.a_nxt {s : Nod} : At (Nod.enc s) 2 (encI s.nxt) := ⟨(encS s.name) ++ ((encI s.child)), (encB s.file) ++ ((encS s.data) ++ ((encI s.mode) ++ ((encI s.size) ++ ((encI s.hash))))), by simp [Nod.enc], by simp [enc8]⟩
theorem Nod.u_file {s : Nod} {x : Bool} : Upd (Nod.enc s) 3 (encB s.file) (encB x) (Nod.enc { s with file := x }) := ⟨(encS s.name) ++ ((encI s.child) ++ ((encI s.nxt))), (encS s.data) ++ ((encI s.mode) ++ ((encI s.size) ++ ((encI s.hash)))), by simp [Nod.enc], by simp [Nod.enc], by simp [enc8], rfl⟩
theorem Nod.a_file {s : Nod} : At (Nod.enc s) 3 (encB s.file) := ⟨(encS s.name) ++ ((encI s.child) ++ ((encI s.nxt))), (encS s.data) ++ ((encI s.mode) ++ ((encI s.size) ++ ((encI s.hash)))), by simp [Nod.enc], by simp [enc8]⟩
theorem Nod.u_data {s : Nod} {x : Str} : Upd (Nod.enc s) 4 (encS s.data) (encS x) (Nod.enc { s with data := x }) := ⟨(encS s.name) ++ ((encI s.child) ++ ((encI s.nxt) ++ ((encB s.file)))), (encI s.mode) ++ ((encI s.size) ++ ((encI s.hash))), by simp [Nod.enc], by simp [Nod.enc], by simp [enc8], rfl⟩
theorem Nod.a_data {s : Nod} : At (Nod.enc s) 4 (encS s.data) := ⟨(encS s.name) ++ ((encI s.child) ++ ((encI s.nxt) ++ ((encB s.file)))), (encI s.mode) ++ ((encI s.size) ++ ((encI s.hash))), by simp [Nod.enc], by simp [enc8]⟩
theorem Nod.u_mode {s : Nod} {x : Int} : Upd (Nod.enc s) 5 (encI s.mode) (encI x) (Nod.enc { s with mode := x }) := ⟨(encS s.name) ++ ((encI s.child) ++ ((encI s.nxt) ++ ((encB s.file) ++ ((encS s.data))))), (encI s.size) ++ ((encI s.hash)), by simp [Nod.enc], by simp [Nod.enc], by simp [enc8], rfl⟩
theorem Nod.a_mode {s : Nod} : At (Nod.enc s) 5 (encI s.mode) := ⟨(encS s.name) ++ ((encI s.child) ++ ((encI s.nxt) ++ ((encB s.file) ++ ((encS s.data))))), (encI s.size) ++ ((encI s.hash)), by simp [Nod.enc], by simp [enc8]⟩
theorem Nod.u_size {s : Nod} {x : Int} : Upd (Nod.enc s) 6 (encI s.size) (encI x) (Nod.enc { s with size := x }) := ⟨(encS s.name) ++ ((encI s.child) ++ ((encI s.nxt) ++ ((encB s.file) ++ ((encS s.data) ++ ((encI s.mode)))))), (encI s.hash), by simp [Nod.enc], by simp [Nod.enc], by simp [enc8], rfl⟩
theorem Nod.a_size {s : Nod} : At (Nod.enc s) 6 (encI s.size) := ⟨(encS s.name) ++ ((encI s.child) ++ ((encI s.nxt) ++ ((encB s.file) ++ ((encS s.data) ++ ((encI s.mode)))))), (encI s.hash), by simp [Nod.enc], by simp [enc8]⟩
theorem Nod.u_hash {s : Nod} {x : Int} : Upd (Nod.enc s) 7 (encI s.hash) (encI x) (Nod.enc { s with hash := x }) := ⟨(encS s.name) ++ ((encI s.child) ++ ((encI s.nxt) ++ ((encB s.file) ++ ((encS s.data) ++ ((encI s.mode) ++ ((encI s.size))))))), [], by simp [Nod.enc], by simp [Nod.enc], by simp [enc8], rfl⟩
theorem Nod.a_hash {s : Nod} : At (Nod.enc s) 7 (encI s.hash) := ⟨(encS s.name) ++ ((encI s.child) ++ ((encI s.nxt) ++ ((encB s.file) ++ ((encS s.data) ++ ((encI s.mode) ++ ((encI s.size))))))), [], by simp [Nod.enc], by simp [enc8]⟩
structure Dev where
  blk : (List UInt8)
  base : (List UInt8)
  at_ : (List Int)
  data : (List UInt8)
def Dev.zero : Dev := { blk := [], base := [], at_ := [], data := [] }
def Dev.enc (p_blk : Value) (p_base : Value) (p_at_ : Value) (p_data : Value) (s : Dev) : List Value := [p_blk] ++ ([p_base] ++ ([p_at_] ++ ([p_data])))
theorem Dev.len (p_blk : Value) (p_base : Value) (p_at_ : Value) (p_data : Value) (s : Dev) : (Dev.enc p_blk p_base p_at_ p_data s).length = 4 := by simp [Dev.enc, enc8]
theorem Dev.plain {p_blk : Value} {p_base : Value} {p_at_ : Value} {p_data : Value} (h_p_blk : plainV p_blk = true) (h_p_base : plainV p_base = true) (h_p_at_ : plainV p_at_ = true) (h_p_data : plainV p_data = true) (s : Dev) : (Dev.enc p_blk p_base p_at_ p_data s).all plainV = true := (all2 (all1 h_p_blk) (all2 (all1 h_p_base) (all2 (all1 h_p_at_) (all1 h_p_data))))
theorem Dev.u_blk {p_blk : Value} {p_base : Value} {p_at_ : Value} {p_data : Value} {s : Dev} {v : Value} : Upd (Dev.enc p_blk p_base p_at_ p_data s) 0 [p_blk] [v] (Dev.enc v p_base p_at_ p_data s) := ⟨[], [p_base] ++ ([p_at_] ++ ([p_data])), by simp [Dev.enc], by simp [Dev.enc], by simp [enc8], rfl⟩
theorem Dev.a_blk {p_blk : Value} {p_base : Value} {p_at_ : Value} {p_data : Value} {s : Dev} : At (Dev.enc p_blk p_base p_at_ p_data s) 0 [p_blk] := ⟨[], [p_base] ++ ([p_at_] ++ ([p_data])), by simp [Dev.enc], by simp [enc8]⟩
theorem Dev.u_base {p_blk : Value} {p_base : Value} {p_at_ : Value} {p_data : Value} {s : Dev} {v : Value} : Upd (Dev.enc p_blk p_base p_at_ p_data s) 1 [p_base] [v] (Dev.enc p_blk v p_at_ p_data s) := ⟨[p_blk], [p_at_] ++ ([p_data]), by simp [Dev.enc], by simp [Dev.enc], by simp [enc8], rfl⟩
theorem Dev.a_base {p_blk : Value} {p_base : Value} {p_at_ : Value} {p_data : Value} {s : Dev} : At (Dev.enc p_blk p_base p_at_ p_data s) 1 [p_base] := ⟨[p_blk], [p_at_] ++ ([p_data]), by simp [Dev.enc], by simp [enc8]⟩
theorem Dev.u_at_ {p_blk : Value} {p_base : Value} {p_at_ : Value} {p_data : Value} {s : Dev} {v : Value} : Upd (Dev.enc p_blk p_base p_at_ p_data s) 2 [p_at_] [v] (Dev.enc p_blk p_base v p_data s) := ⟨[p_blk] ++ ([p_base]), [p_data], by simp [Dev.enc], by simp [Dev.enc], by simp [enc8], rfl⟩
theorem Dev.a_at_ {p_blk : Value} {p_base : Value} {p_at_ : Value} {p_data : Value} {s : Dev} : At (Dev.enc p_blk p_base p_at_ p_data s) 2 [p_at_] := ⟨[p_blk] ++ ([p_base]), [p_data], by simp [Dev.enc], by simp [enc8]⟩
theorem Dev.u_data {p_blk : Value} {p_base : Value} {p_at_ : Value} {p_data : Value} {s : Dev} {v : Value} : Upd (Dev.enc p_blk p_base p_at_ p_data s) 3 [p_data] [v] (Dev.enc p_blk p_base p_at_ v s) := ⟨[p_blk] ++ ([p_base] ++ ([p_at_])), [], by simp [Dev.enc], by simp [Dev.enc], by simp [enc8], rfl⟩
theorem Dev.a_data {p_blk : Value} {p_base : Value} {p_at_ : Value} {p_data : Value} {s : Dev} : At (Dev.enc p_blk p_base p_at_ p_data s) 3 [p_data] := ⟨[p_blk] ++ ([p_base] ++ ([p_at_])), [], by simp [Dev.enc], by simp [enc8]⟩
structure Store where
  tab : (Int → Entr)
  heads : (Int → Int)
  used : (Int → Int)
  nfree : Int
  root : Int
def Store.zero : Store := { tab := (fun _ => Entr.zero), heads := (fun _ => 0), used := (fun _ => 0), nfree := 0, root := 0 }
def Store.enc (p_d : Value) (s : Store) : List Value := [p_d] ++ ((encN Entr.enc s.tab 49) ++ ((encN encI s.heads 8) ++ ((encN encU s.used 3) ++ ((encI s.nfree) ++ ((encI s.root))))))
theorem Store.len (p_d : Value) (s : Store) : (Store.enc p_d s).length = 308 := by simp [Store.enc, encN_len Entr.len, encN_len encI_len, encN_len encU_len, Entr.len, encI_len, encU_len, enc8]
theorem Store.plain {p_d : Value} (h_p_d : plainV p_d = true) (s : Store) : (Store.enc p_d s).all plainV = true := (all2 (all1 h_p_d) (all2 (encN_plain Entr.plain _ _) (all2 (encN_plain (fun _ => rfl) _ _) (all2 (encN_plain (fun _ => rfl) _ _) (all2 rfl rfl)))))
theorem Store.u_d {p_d : Value} {s : Store} {v : Value} : Upd (Store.enc p_d s) 0 [p_d] [v] (Store.enc v s) := ⟨[], (encN Entr.enc s.tab 49) ++ ((encN encI s.heads 8) ++ ((encN encU s.used 3) ++ ((encI s.nfree) ++ ((encI s.root))))), by simp [Store.enc], by simp [Store.enc], by simp [encN_len Entr.len, encN_len encI_len, encN_len encU_len, Entr.len, encI_len, encU_len, enc8], rfl⟩
theorem Store.a_d {p_d : Value} {s : Store} : At (Store.enc p_d s) 0 [p_d] := ⟨[], (encN Entr.enc s.tab 49) ++ ((encN encI s.heads 8) ++ ((encN encU s.used 3) ++ ((encI s.nfree) ++ ((encI s.root))))), by simp [Store.enc], by simp [encN_len Entr.len, encN_len encI_len, encN_len encU_len, Entr.len, encI_len, encU_len, enc8]⟩
theorem Store.u_tab {p_d : Value} {s : Store} {x : (Int → Entr)} : Upd (Store.enc p_d s) 1 (encN Entr.enc s.tab 49) (encN Entr.enc x 49) (Store.enc p_d { s with tab := x }) := ⟨[p_d], (encN encI s.heads 8) ++ ((encN encU s.used 3) ++ ((encI s.nfree) ++ ((encI s.root)))), by simp [Store.enc], by simp [Store.enc], by simp [encN_len Entr.len, encN_len encI_len, encN_len encU_len, Entr.len, encI_len, encU_len, enc8], by simp [encN_len Entr.len, encN_len encI_len, encN_len encU_len, Entr.len, encI_len, encU_len, enc8]⟩
theorem Store.a_tab {p_d : Value} {s : Store} : At (Store.enc p_d s) 1 (encN Entr.enc s.tab 49) := ⟨[p_d], (encN encI s.heads 8) ++ ((encN encU s.used 3) ++ ((encI s.nfree) ++ ((encI s.root)))), by simp [Store.enc], by simp [encN_len Entr.len, encN_len encI_len, encN_len encU_len, Entr.len, encI_len, encU_len, enc8]⟩
theorem Store.u_heads {p_d : Value} {s : Store} {x : (Int → Int)} : Upd (Store.enc p_d s) 295 (encN encI s.heads 8) (encN encI x 8) (Store.enc p_d { s with heads := x }) := ⟨[p_d] ++ ((encN Entr.enc s.tab 49)), (encN encU s.used 3) ++ ((encI s.nfree) ++ ((encI s.root))), by simp [Store.enc], by simp [Store.enc], by simp [encN_len Entr.len, encN_len encI_len, encN_len encU_len, Entr.len, encI_len, encU_len, enc8], by simp [encN_len Entr.len, encN_len encI_len, encN_len encU_len, Entr.len, encI_len, encU_len, enc8]⟩
theorem Store.a_heads {p_d : Value} {s : Store} : At (Store.enc p_d s) 295 (encN encI s.heads 8) := ⟨[p_d] ++ ((encN Entr.enc s.tab 49)), (encN encU s.used 3) ++ ((encI s.nfree) ++ ((encI s.root))), by simp [Store.enc], by simp [encN_len Entr.len, encN_len encI_len, encN_len encU_len, Entr.len, encI_len, encU_len, enc8]⟩
theorem Store.u_used {p_d : Value} {s : Store} {x : (Int → Int)} : Upd (Store.enc p_d s) 303 (encN encU s.used 3) (encN encU x 3) (Store.enc p_d { s with used := x }) := ⟨[p_d] ++ ((encN Entr.enc s.tab 49) ++ ((encN encI s.heads 8))), (encI s.nfree) ++ ((encI s.root)), by simp [Store.enc], by simp [Store.enc], by simp [encN_len Entr.len, encN_len encI_len, encN_len encU_len, Entr.len, encI_len, encU_len, enc8], by simp [encN_len Entr.len, encN_len encI_len, encN_len encU_len, Entr.len, encI_len, encU_len, enc8]⟩
theorem Store.a_used {p_d : Value} {s : Store} : At (Store.enc p_d s) 303 (encN encU s.used 3) := ⟨[p_d] ++ ((encN Entr.enc s.tab 49) ++ ((encN encI s.heads 8))), (encI s.nfree) ++ ((encI s.root)), by simp [Store.enc], by simp [encN_len Entr.len, encN_len encI_len, encN_len encU_len, Entr.len, encI_len, encU_len, enc8]⟩
theorem Store.u_nfree {p_d : Value} {s : Store} {x : Int} : Upd (Store.enc p_d s) 306 (encI s.nfree) (encI x) (Store.enc p_d { s with nfree := x }) := ⟨[p_d] ++ ((encN Entr.enc s.tab 49) ++ ((encN encI s.heads 8) ++ ((encN encU s.used 3)))), (encI s.root), by simp [Store.enc], by simp [Store.enc], by simp [encN_len Entr.len, encN_len encI_len, encN_len encU_len, Entr.len, encI_len, encU_len, enc8], rfl⟩
theorem Store.a_nfree {p_d : Value} {s : Store} : At (Store.enc p_d s) 306 (encI s.nfree) := ⟨[p_d] ++ ((encN Entr.enc s.tab 49) ++ ((encN encI s.heads 8) ++ ((encN encU s.used 3)))), (encI s.root), by simp [Store.enc], by simp [encN_len Entr.len, encN_len encI_len, encN_len encU_len, Entr.len, encI_len, encU_len, enc8]⟩
theorem Store.u_root {p_d : Value} {s : Store} {x : Int} : Upd (Store.enc p_d s) 307 (encI s.root) (encI x) (Store.enc p_d { s with root := x }) := ⟨[p_d] ++ ((encN Entr.enc s.tab 49) ++ ((encN encI s.heads 8) ++ ((encN encU s.used 3) ++ ((encI s.nfree))))), [], by simp [Store.enc], by simp [Store.enc], by simp [encN_len Entr.len, encN_len encI_len, encN_len encU_len, Entr.len, encI_len, encU_len, enc8], rfl⟩
theorem Store.a_root {p_d : Value} {s : Store} : At (Store.enc p_d s) 307 (encI s.root) := ⟨[p_d] ++ ((encN Entr.enc s.tab 49) ++ ((encN encI s.heads 8) ++ ((encN encU s.used 3) ++ ((encI s.nfree))))), [], by simp [Store.enc], by simp [encN_len Entr.len, encN_len encI_len, encN_len encU_len, Entr.len, encI_len, encU_len, enc8]⟩
structure Trees where
  kind : (Int → Int)
  count : (Int → Int)
def Trees.zero : Trees := { kind := (fun _ => 0), count := (fun _ => 0) }
def Trees.enc (p_o : Value) (s : Trees) : List Value := [p_o] ++ ((encN encI s.kind 49) ++ ((encN encI s.count 49)))
theorem Trees.len (p_o : Value) (s : Trees) : (Trees.enc p_o s).length = 99 := by simp [Trees.enc, encN_len encI_len, encI_len, enc8]
theorem Trees.plain {p_o : Value} (h_p_o : plainV p_o = true) (s : Trees) : (Trees.enc p_o s).all plainV = true := (all2 (all1 h_p_o) (all2 (encN_plain (fun _ => rfl) _ _) (encN_plain (fun _ => rfl) _ _)))
theorem Trees.u_o {p_o : Value} {s : Trees} {v : Value} : Upd (Trees.enc p_o s) 0 [p_o] [v] (Trees.enc v s) := ⟨[], (encN encI s.kind 49) ++ ((encN encI s.count 49)), by simp [Trees.enc], by simp [Trees.enc], by simp [encN_len encI_len, encI_len, enc8], rfl⟩
theorem Trees.a_o {p_o : Value} {s : Trees} : At (Trees.enc p_o s) 0 [p_o] := ⟨[], (encN encI s.kind 49) ++ ((encN encI s.count 49)), by simp [Trees.enc], by simp [encN_len encI_len, encI_len, enc8]⟩
theorem Trees.u_kind {p_o : Value} {s : Trees} {x : (Int → Int)} : Upd (Trees.enc p_o s) 1 (encN encI s.kind 49) (encN encI x 49) (Trees.enc p_o { s with kind := x }) := ⟨[p_o], (encN encI s.count 49), by simp [Trees.enc], by simp [Trees.enc], by simp [encN_len encI_len, encI_len, enc8], by simp [encN_len encI_len, encI_len, enc8]⟩
theorem Trees.a_kind {p_o : Value} {s : Trees} : At (Trees.enc p_o s) 1 (encN encI s.kind 49) := ⟨[p_o], (encN encI s.count 49), by simp [Trees.enc], by simp [encN_len encI_len, encI_len, enc8]⟩
theorem Trees.u_count {p_o : Value} {s : Trees} {x : (Int → Int)} : Upd (Trees.enc p_o s) 50 (encN encI s.count 49) (encN encI x 49) (Trees.enc p_o { s with count := x }) := ⟨[p_o] ++ ((encN encI s.kind 49)), [], by simp [Trees.enc], by simp [Trees.enc], by simp [encN_len encI_len, encI_len, enc8], by simp [encN_len encI_len, encI_len, enc8]⟩
theorem Trees.a_count {p_o : Value} {s : Trees} : At (Trees.enc p_o s) 50 (encN encI s.count 49) := ⟨[p_o] ++ ((encN encI s.kind 49)), [], by simp [Trees.enc], by simp [encN_len encI_len, encI_len, enc8]⟩
structure Graph where
  com : (Int → Com)
  order : (Int → Int)
  n : Int
  br : (Int → Brn)
  nb : Int
  name : Str
  at_ : Int
  merge : Int
  aux : Int
  nxt : Int
def Graph.zero : Graph := { com := (fun _ => Com.zero), order := (fun _ => 0), n := 0, br := (fun _ => Brn.zero), nb := 0, name := [], at_ := 0, merge := 0, aux := 0, nxt := 0 }
def Graph.enc (p_t : Value) (s : Graph) : List Value := [p_t] ++ ((encN Com.enc s.com 49) ++ ((encN encI s.order 48) ++ ((encI s.n) ++ ((encN Brn.enc s.br 4) ++ ((encI s.nb) ++ ((encS s.name) ++ ((encI s.at_) ++ ((encI s.merge) ++ ((encI s.aux) ++ ((encI s.nxt)))))))))))
theorem Graph.len (p_t : Value) (s : Graph) : (Graph.enc p_t s).length = 358 := by simp [Graph.enc, encN_len Brn.len, encN_len Com.len, encN_len encI_len, Brn.len, Com.len, encI_len, enc8]
theorem Graph.plain {p_t : Value} (h_p_t : plainV p_t = true) (s : Graph) : (Graph.enc p_t s).all plainV = true := (all2 (all1 h_p_t) (all2 (encN_plain Com.plain _ _) (all2 (encN_plain (fun _ => rfl) _ _) (all2 rfl (all2 (encN_plain Brn.plain _ _) (all2 rfl (all2 rfl (all2 rfl (all2 rfl (all2 rfl rfl))))))))))
theorem Graph.u_t {p_t : Value} {s : Graph} {v : Value} : Upd (Graph.enc p_t s) 0 [p_t] [v] (Graph.enc v s) := ⟨[], (encN Com.enc s.com 49) ++ ((encN encI s.order 48) ++ ((encI s.n) ++ ((encN Brn.enc s.br 4) ++ ((encI s.nb) ++ ((encS s.name) ++ ((encI s.at_) ++ ((encI s.merge) ++ ((encI s.aux) ++ ((encI s.nxt)))))))))), by simp [Graph.enc], by simp [Graph.enc], by simp [encN_len Brn.len, encN_len Com.len, encN_len encI_len, Brn.len, Com.len, encI_len, enc8], rfl⟩
theorem Graph.a_t {p_t : Value} {s : Graph} : At (Graph.enc p_t s) 0 [p_t] := ⟨[], (encN Com.enc s.com 49) ++ ((encN encI s.order 48) ++ ((encI s.n) ++ ((encN Brn.enc s.br 4) ++ ((encI s.nb) ++ ((encS s.name) ++ ((encI s.at_) ++ ((encI s.merge) ++ ((encI s.aux) ++ ((encI s.nxt)))))))))), by simp [Graph.enc], by simp [encN_len Brn.len, encN_len Com.len, encN_len encI_len, Brn.len, Com.len, encI_len, enc8]⟩
theorem Graph.u_com {p_t : Value} {s : Graph} {x : (Int → Com)} : Upd (Graph.enc p_t s) 1 (encN Com.enc s.com 49) (encN Com.enc x 49) (Graph.enc p_t { s with com := x }) := ⟨[p_t], (encN encI s.order 48) ++ ((encI s.n) ++ ((encN Brn.enc s.br 4) ++ ((encI s.nb) ++ ((encS s.name) ++ ((encI s.at_) ++ ((encI s.merge) ++ ((encI s.aux) ++ ((encI s.nxt))))))))), by simp [Graph.enc], by simp [Graph.enc], by simp [encN_len Brn.len, encN_len Com.len, encN_len encI_len, Brn.len, Com.len, encI_len, enc8], by simp [encN_len Brn.len, encN_len Com.len, encN_len encI_len, Brn.len, Com.len, encI_len, enc8]⟩
theorem Graph.a_com {p_t : Value} {s : Graph} : At (Graph.enc p_t s) 1 (encN Com.enc s.com 49) := ⟨[p_t], (encN encI s.order 48) ++ ((encI s.n) ++ ((encN Brn.enc s.br 4) ++ ((encI s.nb) ++ ((encS s.name) ++ ((encI s.at_) ++ ((encI s.merge) ++ ((encI s.aux) ++ ((encI s.nxt))))))))), by simp [Graph.enc], by simp [encN_len Brn.len, encN_len Com.len, encN_len encI_len, Brn.len, Com.len, encI_len, enc8]⟩
theorem Graph.u_order {p_t : Value} {s : Graph} {x : (Int → Int)} : Upd (Graph.enc p_t s) 295 (encN encI s.order 48) (encN encI x 48) (Graph.enc p_t { s with order := x }) := ⟨[p_t] ++ ((encN Com.enc s.com 49)), (encI s.n) ++ ((encN Brn.enc s.br 4) ++ ((encI s.nb) ++ ((encS s.name) ++ ((encI s.at_) ++ ((encI s.merge) ++ ((encI s.aux) ++ ((encI s.nxt)))))))), by simp [Graph.enc], by simp [Graph.enc], by simp [encN_len Brn.len, encN_len Com.len, encN_len encI_len, Brn.len, Com.len, encI_len, enc8], by simp [encN_len Brn.len, encN_len Com.len, encN_len encI_len, Brn.len, Com.len, encI_len, enc8]⟩
theorem Graph.a_order {p_t : Value} {s : Graph} : At (Graph.enc p_t s) 295 (encN encI s.order 48) := ⟨[p_t] ++ ((encN Com.enc s.com 49)), (encI s.n) ++ ((encN Brn.enc s.br 4) ++ ((encI s.nb) ++ ((encS s.name) ++ ((encI s.at_) ++ ((encI s.merge) ++ ((encI s.aux) ++ ((encI s.nxt)))))))), by simp [Graph.enc], by simp [encN_len Brn.len, encN_len Com.len, encN_len encI_len, Brn.len, Com.len, encI_len, enc8]⟩
theorem Graph.u_n {p_t : Value} {s : Graph} {x : Int} : Upd (Graph.enc p_t s) 343 (encI s.n) (encI x) (Graph.enc p_t { s with n := x }) := ⟨[p_t] ++ ((encN Com.enc s.com 49) ++ ((encN encI s.order 48))), (encN Brn.enc s.br 4) ++ ((encI s.nb) ++ ((encS s.name) ++ ((encI s.at_) ++ ((encI s.merge) ++ ((encI s.aux) ++ ((encI s.nxt))))))), by simp [Graph.enc], by simp [Graph.enc], by simp [encN_len Brn.len, encN_len Com.len, encN_len encI_len, Brn.len, Com.len, encI_len, enc8], rfl⟩
theorem Graph.a_n {p_t : Value} {s : Graph} : At (Graph.enc p_t s) 343 (encI s.n) := ⟨[p_t] ++ ((encN Com.enc s.com 49) ++ ((encN encI s.order 48))), (encN Brn.enc s.br 4) ++ ((encI s.nb) ++ ((encS s.name) ++ ((encI s.at_) ++ ((encI s.merge) ++ ((encI s.aux) ++ ((encI s.nxt))))))), by simp [Graph.enc], by simp [encN_len Brn.len, encN_len Com.len, encN_len encI_len, Brn.len, Com.len, encI_len, enc8]⟩
theorem Graph.u_br {p_t : Value} {s : Graph} {x : (Int → Brn)} : Upd (Graph.enc p_t s) 344 (encN Brn.enc s.br 4) (encN Brn.enc x 4) (Graph.enc p_t { s with br := x }) := ⟨[p_t] ++ ((encN Com.enc s.com 49) ++ ((encN encI s.order 48) ++ ((encI s.n)))), (encI s.nb) ++ ((encS s.name) ++ ((encI s.at_) ++ ((encI s.merge) ++ ((encI s.aux) ++ ((encI s.nxt)))))), by simp [Graph.enc], by simp [Graph.enc], by simp [encN_len Brn.len, encN_len Com.len, encN_len encI_len, Brn.len, Com.len, encI_len, enc8], by simp [encN_len Brn.len, encN_len Com.len, encN_len encI_len, Brn.len, Com.len, encI_len, enc8]⟩
theorem Graph.a_br {p_t : Value} {s : Graph} : At (Graph.enc p_t s) 344 (encN Brn.enc s.br 4) := ⟨[p_t] ++ ((encN Com.enc s.com 49) ++ ((encN encI s.order 48) ++ ((encI s.n)))), (encI s.nb) ++ ((encS s.name) ++ ((encI s.at_) ++ ((encI s.merge) ++ ((encI s.aux) ++ ((encI s.nxt)))))), by simp [Graph.enc], by simp [encN_len Brn.len, encN_len Com.len, encN_len encI_len, Brn.len, Com.len, encI_len, enc8]⟩
theorem Graph.u_nb {p_t : Value} {s : Graph} {x : Int} : Upd (Graph.enc p_t s) 352 (encI s.nb) (encI x) (Graph.enc p_t { s with nb := x }) := ⟨[p_t] ++ ((encN Com.enc s.com 49) ++ ((encN encI s.order 48) ++ ((encI s.n) ++ ((encN Brn.enc s.br 4))))), (encS s.name) ++ ((encI s.at_) ++ ((encI s.merge) ++ ((encI s.aux) ++ ((encI s.nxt))))), by simp [Graph.enc], by simp [Graph.enc], by simp [encN_len Brn.len, encN_len Com.len, encN_len encI_len, Brn.len, Com.len, encI_len, enc8], rfl⟩
theorem Graph.a_nb {p_t : Value} {s : Graph} : At (Graph.enc p_t s) 352 (encI s.nb) := ⟨[p_t] ++ ((encN Com.enc s.com 49) ++ ((encN encI s.order 48) ++ ((encI s.n) ++ ((encN Brn.enc s.br 4))))), (encS s.name) ++ ((encI s.at_) ++ ((encI s.merge) ++ ((encI s.aux) ++ ((encI s.nxt))))), by simp [Graph.enc], by simp [encN_len Brn.len, encN_len Com.len, encN_len encI_len, Brn.len, Com.len, encI_len, enc8]⟩
theorem Graph.u_name {p_t : Value} {s : Graph} {x : Str} : Upd (Graph.enc p_t s) 353 (encS s.name) (encS x) (Graph.enc p_t { s with name := x }) := ⟨[p_t] ++ ((encN Com.enc s.com 49) ++ ((encN encI s.order 48) ++ ((encI s.n) ++ ((encN Brn.enc s.br 4) ++ ((encI s.nb)))))), (encI s.at_) ++ ((encI s.merge) ++ ((encI s.aux) ++ ((encI s.nxt)))), by simp [Graph.enc], by simp [Graph.enc], by simp [encN_len Brn.len, encN_len Com.len, encN_len encI_len, Brn.len, Com.len, encI_len, enc8], rfl⟩
theorem Graph.a_name {p_t : Value} {s : Graph} : At (Graph.enc p_t s) 353 (encS s.name) := ⟨[p_t] ++ ((encN Com.enc s.com 49) ++ ((encN encI s.order 48) ++ ((encI s.n) ++ ((encN Brn.enc s.br 4) ++ ((encI s.nb)))))), (encI s.at_) ++ ((encI s.merge) ++ ((encI s.aux) ++ ((encI s.nxt)))), by simp [Graph.enc], by simp [encN_len Brn.len, encN_len Com.len, encN_len encI_len, Brn.len, Com.len, encI_len, enc8]⟩
theorem Graph.u_at_ {p_t : Value} {s : Graph} {x : Int} : Upd (Graph.enc p_t s) 354 (encI s.at_) (encI x) (Graph.enc p_t { s with at_ := x }) := ⟨[p_t] ++ ((encN Com.enc s.com 49) ++ ((encN encI s.order 48) ++ ((encI s.n) ++ ((encN Brn.enc s.br 4) ++ ((encI s.nb) ++ ((encS s.name))))))), (encI s.merge) ++ ((encI s.aux) ++ ((encI s.nxt))), by simp [Graph.enc], by simp [Graph.enc], by simp [encN_len Brn.len, encN_len Com.len, encN_len encI_len, Brn.len, Com.len, encI_len, enc8], rfl⟩
theorem Graph.a_at_ {p_t : Value} {s : Graph} : At (Graph.enc p_t s) 354 (encI s.at_) := ⟨[p_t] ++ ((encN Com.enc s.com 49) ++ ((encN encI s.order 48) ++ ((encI s.n) ++ ((encN Brn.enc s.br 4) ++ ((encI s.nb) ++ ((encS s.name))))))), (encI s.merge) ++ ((encI s.aux) ++ ((encI s.nxt))), by simp [Graph.enc], by simp [encN_len Brn.len, encN_len Com.len, encN_len encI_len, Brn.len, Com.len, encI_len, enc8]⟩
theorem Graph.u_merge {p_t : Value} {s : Graph} {x : Int} : Upd (Graph.enc p_t s) 355 (encI s.merge) (encI x) (Graph.enc p_t { s with merge := x }) := ⟨[p_t] ++ ((encN Com.enc s.com 49) ++ ((encN encI s.order 48) ++ ((encI s.n) ++ ((encN Brn.enc s.br 4) ++ ((encI s.nb) ++ ((encS s.name) ++ ((encI s.at_)))))))), (encI s.aux) ++ ((encI s.nxt)), by simp [Graph.enc], by simp [Graph.enc], by simp [encN_len Brn.len, encN_len Com.len, encN_len encI_len, Brn.len, Com.len, encI_len, enc8], rfl⟩
theorem Graph.a_merge {p_t : Value} {s : Graph} : At (Graph.enc p_t s) 355 (encI s.merge) := ⟨[p_t] ++ ((encN Com.enc s.com 49) ++ ((encN encI s.order 48) ++ ((encI s.n) ++ ((encN Brn.enc s.br 4) ++ ((encI s.nb) ++ ((encS s.name) ++ ((encI s.at_)))))))), (encI s.aux) ++ ((encI s.nxt)), by simp [Graph.enc], by simp [encN_len Brn.len, encN_len Com.len, encN_len encI_len, Brn.len, Com.len, encI_len, enc8]⟩
theorem Graph.u_aux {p_t : Value} {s : Graph} {x : Int} : Upd (Graph.enc p_t s) 356 (encI s.aux) (encI x) (Graph.enc p_t { s with aux := x }) := ⟨[p_t] ++ ((encN Com.enc s.com 49) ++ ((encN encI s.order 48) ++ ((encI s.n) ++ ((encN Brn.enc s.br 4) ++ ((encI s.nb) ++ ((encS s.name) ++ ((encI s.at_) ++ ((encI s.merge))))))))), (encI s.nxt), by simp [Graph.enc], by simp [Graph.enc], by simp [encN_len Brn.len, encN_len Com.len, encN_len encI_len, Brn.len, Com.len, encI_len, enc8], rfl⟩
theorem Graph.a_aux {p_t : Value} {s : Graph} : At (Graph.enc p_t s) 356 (encI s.aux) := ⟨[p_t] ++ ((encN Com.enc s.com 49) ++ ((encN encI s.order 48) ++ ((encI s.n) ++ ((encN Brn.enc s.br 4) ++ ((encI s.nb) ++ ((encS s.name) ++ ((encI s.at_) ++ ((encI s.merge))))))))), (encI s.nxt), by simp [Graph.enc], by simp [encN_len Brn.len, encN_len Com.len, encN_len encI_len, Brn.len, Com.len, encI_len, enc8]⟩
theorem Graph.u_nxt {p_t : Value} {s : Graph} {x : Int} : Upd (Graph.enc p_t s) 357 (encI s.nxt) (encI x) (Graph.enc p_t { s with nxt := x }) := ⟨[p_t] ++ ((encN Com.enc s.com 49) ++ ((encN encI s.order 48) ++ ((encI s.n) ++ ((encN Brn.enc s.br 4) ++ ((encI s.nb) ++ ((encS s.name) ++ ((encI s.at_) ++ ((encI s.merge) ++ ((encI s.aux)))))))))), [], by simp [Graph.enc], by simp [Graph.enc], by simp [encN_len Brn.len, encN_len Com.len, encN_len encI_len, Brn.len, Com.len, encI_len, enc8], rfl⟩
theorem Graph.a_nxt {p_t : Value} {s : Graph} : At (Graph.enc p_t s) 357 (encI s.nxt) := ⟨[p_t] ++ ((encN Com.enc s.com 49) ++ ((encN encI s.order 48) ++ ((encI s.n) ++ ((encN Brn.enc s.br 4) ++ ((encI s.nb) ++ ((encS s.name) ++ ((encI s.at_) ++ ((encI s.merge) ++ ((encI s.aux)))))))))), [], by simp [Graph.enc], by simp [encN_len Brn.len, encN_len Com.len, encN_len encI_len, Brn.len, Com.len, encI_len, enc8]⟩
structure Index where
  pool : (Int → Nod)
  free : Int
  files : Int
def Index.zero : Index := { pool := (fun _ => Nod.zero), free := 0, files := 0 }
def Index.enc (s : Index) : List Value := (encN Nod.enc s.pool 49) ++ ((encI s.free) ++ ((encI s.files)))
theorem Index.len (s : Index) : (Index.enc s).length = 394 := by simp [Index.enc, encN_len Nod.len, Nod.len, enc8]
theorem Index.plain (s : Index) : (Index.enc s).all plainV = true := (all2 (encN_plain Nod.plain _ _) (all2 rfl rfl))
theorem Index.u_pool {s : Index} {x : (Int → Nod)} : Upd (Index.enc s) 0 (encN Nod.enc s.pool 49) (encN Nod.enc x 49) (Index.enc { s with pool := x }) := ⟨[], (encI s.free) ++ ((encI s.files)), by simp [Index.enc], by simp [Index.enc], by simp [encN_len Nod.len, Nod.len, enc8], by simp [encN_len Nod.len, Nod.len, enc8]⟩
theorem Index.a_pool {s : Index} : At (Index.enc s) 0 (encN Nod.enc s.pool 49) := ⟨[], (encI s.free) ++ ((encI s.files)), by simp [Index.enc], by simp [encN_len Nod.len, Nod.len, enc8]⟩
theorem Index.u_free {s : Index} {x : Int} : Upd (Index.enc s) 392 (encI s.free) (encI x) (Index.enc { s with free := x }) := ⟨(encN Nod.enc s.pool 49), (encI s.files), by simp [Index.enc], by simp [Index.enc], by simp [encN_len Nod.len, Nod.len, enc8], rfl⟩
theorem Index.a_free {s : Index} : At (Index.enc s) 392 (encI s.free) := ⟨(encN Nod.enc s.pool 49), (encI s.files), by simp [Index.enc], by simp [encN_len Nod.len, Nod.len, enc8]⟩
theorem Index.u_files {s : Index} {x : Int} : Upd (Index.enc s) 393 (encI s.files) (encI x) (Index.enc { s with files := x }) := ⟨(encN Nod.enc s.pool 49) ++ ((encI s.free)), [], by simp [Index.enc], by simp [Index.enc], by simp [encN_len Nod.len, Nod.len, enc8], rfl⟩
theorem Index.a_files {s : Index} : At (Index.enc s) 393 (encI s.files) := ⟨(encN Nod.enc s.pool 49) ++ ((encI s.free)), [], by simp [Index.enc], by simp [encN_len Nod.len, Nod.len, enc8]⟩
structure Engine where
  head : (Int → Int)
  line_ : (List Str)
  sum : (List Int)
  nxt : (List Int)
def Engine.zero : Engine := { head := (fun _ => 0), line_ := [], sum := [], nxt := [] }
def Engine.enc (p_line_ : Value) (p_sum : Value) (p_nxt : Value) (s : Engine) : List Value := (encN encI s.head 8) ++ ([p_line_] ++ ([p_sum] ++ ([p_nxt])))
theorem Engine.len (p_line_ : Value) (p_sum : Value) (p_nxt : Value) (s : Engine) : (Engine.enc p_line_ p_sum p_nxt s).length = 11 := by simp [Engine.enc, encN_len encI_len, encI_len, enc8]
theorem Engine.plain {p_line_ : Value} {p_sum : Value} {p_nxt : Value} (h_p_line_ : plainV p_line_ = true) (h_p_sum : plainV p_sum = true) (h_p_nxt : plainV p_nxt = true) (s : Engine) : (Engine.enc p_line_ p_sum p_nxt s).all plainV = true := (all2 (encN_plain (fun _ => rfl) _ _) (all2 (all1 h_p_line_) (all2 (all1 h_p_sum) (all1 h_p_nxt))))
theorem Engine.u_head {p_line_ : Value} {p_sum : Value} {p_nxt : Value} {s : Engine} {x : (Int → Int)} : Upd (Engine.enc p_line_ p_sum p_nxt s) 0 (encN encI s.head 8) (encN encI x 8) (Engine.enc p_line_ p_sum p_nxt { s with head := x }) := ⟨[], [p_line_] ++ ([p_sum] ++ ([p_nxt])), by simp [Engine.enc], by simp [Engine.enc], by simp [encN_len encI_len, encI_len, enc8], by simp [encN_len encI_len, encI_len, enc8]⟩
theorem Engine.a_head {p_line_ : Value} {p_sum : Value} {p_nxt : Value} {s : Engine} : At (Engine.enc p_line_ p_sum p_nxt s) 0 (encN encI s.head 8) := ⟨[], [p_line_] ++ ([p_sum] ++ ([p_nxt])), by simp [Engine.enc], by simp [encN_len encI_len, encI_len, enc8]⟩
theorem Engine.u_line_ {p_line_ : Value} {p_sum : Value} {p_nxt : Value} {s : Engine} {v : Value} : Upd (Engine.enc p_line_ p_sum p_nxt s) 8 [p_line_] [v] (Engine.enc v p_sum p_nxt s) := ⟨(encN encI s.head 8), [p_sum] ++ ([p_nxt]), by simp [Engine.enc], by simp [Engine.enc], by simp [encN_len encI_len, encI_len, enc8], rfl⟩
theorem Engine.a_line_ {p_line_ : Value} {p_sum : Value} {p_nxt : Value} {s : Engine} : At (Engine.enc p_line_ p_sum p_nxt s) 8 [p_line_] := ⟨(encN encI s.head 8), [p_sum] ++ ([p_nxt]), by simp [Engine.enc], by simp [encN_len encI_len, encI_len, enc8]⟩
theorem Engine.u_sum {p_line_ : Value} {p_sum : Value} {p_nxt : Value} {s : Engine} {v : Value} : Upd (Engine.enc p_line_ p_sum p_nxt s) 9 [p_sum] [v] (Engine.enc p_line_ v p_nxt s) := ⟨(encN encI s.head 8) ++ ([p_line_]), [p_nxt], by simp [Engine.enc], by simp [Engine.enc], by simp [encN_len encI_len, encI_len, enc8], rfl⟩
theorem Engine.a_sum {p_line_ : Value} {p_sum : Value} {p_nxt : Value} {s : Engine} : At (Engine.enc p_line_ p_sum p_nxt s) 9 [p_sum] := ⟨(encN encI s.head 8) ++ ([p_line_]), [p_nxt], by simp [Engine.enc], by simp [encN_len encI_len, encI_len, enc8]⟩
theorem Engine.u_nxt {p_line_ : Value} {p_sum : Value} {p_nxt : Value} {s : Engine} {v : Value} : Upd (Engine.enc p_line_ p_sum p_nxt s) 10 [p_nxt] [v] (Engine.enc p_line_ p_sum v s) := ⟨(encN encI s.head 8) ++ ([p_line_] ++ ([p_sum])), [], by simp [Engine.enc], by simp [Engine.enc], by simp [encN_len encI_len, encI_len, enc8], rfl⟩
theorem Engine.a_nxt {p_line_ : Value} {p_sum : Value} {p_nxt : Value} {s : Engine} : At (Engine.enc p_line_ p_sum p_nxt s) 10 [p_nxt] := ⟨(encN encI s.head 8) ++ ([p_line_] ++ ([p_sum])), [], by simp [Engine.enc], by simp [encN_len encI_len, encI_len, enc8]⟩
structure RepoR where
  work : (Int → File)
  n : Int
def RepoR.zero : RepoR := { work := (fun _ => File.zero), n := 0 }
def RepoR.enc (p_g : Value) (p_x : Value) (p_d : Value) (s : RepoR) : List Value := [p_g] ++ ([p_x] ++ ([p_d] ++ ((encN File.enc s.work 8) ++ ((encI s.n)))))
theorem RepoR.len (p_g : Value) (p_x : Value) (p_d : Value) (s : RepoR) : (RepoR.enc p_g p_x p_d s).length = 28 := by simp [RepoR.enc, encN_len File.len, File.len, enc8]
theorem RepoR.plain {p_g : Value} {p_x : Value} {p_d : Value} (h_p_g : plainV p_g = true) (h_p_x : plainV p_x = true) (h_p_d : plainV p_d = true) (s : RepoR) : (RepoR.enc p_g p_x p_d s).all plainV = true := (all2 (all1 h_p_g) (all2 (all1 h_p_x) (all2 (all1 h_p_d) (all2 (encN_plain File.plain _ _) rfl))))
theorem RepoR.u_g {p_g : Value} {p_x : Value} {p_d : Value} {s : RepoR} {v : Value} : Upd (RepoR.enc p_g p_x p_d s) 0 [p_g] [v] (RepoR.enc v p_x p_d s) := ⟨[], [p_x] ++ ([p_d] ++ ((encN File.enc s.work 8) ++ ((encI s.n)))), by simp [RepoR.enc], by simp [RepoR.enc], by simp [encN_len File.len, File.len, enc8], rfl⟩
theorem RepoR.a_g {p_g : Value} {p_x : Value} {p_d : Value} {s : RepoR} : At (RepoR.enc p_g p_x p_d s) 0 [p_g] := ⟨[], [p_x] ++ ([p_d] ++ ((encN File.enc s.work 8) ++ ((encI s.n)))), by simp [RepoR.enc], by simp [encN_len File.len, File.len, enc8]⟩
theorem RepoR.u_x {p_g : Value} {p_x : Value} {p_d : Value} {s : RepoR} {v : Value} : Upd (RepoR.enc p_g p_x p_d s) 1 [p_x] [v] (RepoR.enc p_g v p_d s) := ⟨[p_g], [p_d] ++ ((encN File.enc s.work 8) ++ ((encI s.n))), by simp [RepoR.enc], by simp [RepoR.enc], by simp [encN_len File.len, File.len, enc8], rfl⟩
theorem RepoR.a_x {p_g : Value} {p_x : Value} {p_d : Value} {s : RepoR} : At (RepoR.enc p_g p_x p_d s) 1 [p_x] := ⟨[p_g], [p_d] ++ ((encN File.enc s.work 8) ++ ((encI s.n))), by simp [RepoR.enc], by simp [encN_len File.len, File.len, enc8]⟩
theorem RepoR.u_d {p_g : Value} {p_x : Value} {p_d : Value} {s : RepoR} {v : Value} : Upd (RepoR.enc p_g p_x p_d s) 2 [p_d] [v] (RepoR.enc p_g p_x v s) := ⟨[p_g] ++ ([p_x]), (encN File.enc s.work 8) ++ ((encI s.n)), by simp [RepoR.enc], by simp [RepoR.enc], by simp [encN_len File.len, File.len, enc8], rfl⟩
theorem RepoR.a_d {p_g : Value} {p_x : Value} {p_d : Value} {s : RepoR} : At (RepoR.enc p_g p_x p_d s) 2 [p_d] := ⟨[p_g] ++ ([p_x]), (encN File.enc s.work 8) ++ ((encI s.n)), by simp [RepoR.enc], by simp [encN_len File.len, File.len, enc8]⟩
theorem RepoR.u_work {p_g : Value} {p_x : Value} {p_d : Value} {s : RepoR} {x : (Int → File)} : Upd (RepoR.enc p_g p_x p_d s) 3 (encN File.enc s.work 8) (encN File.enc x 8) (RepoR.enc p_g p_x p_d { s with work := x }) := ⟨[p_g] ++ ([p_x] ++ ([p_d])), (encI s.n), by simp [RepoR.enc], by simp [RepoR.enc], by simp [encN_len File.len, File.len, enc8], by simp [encN_len File.len, File.len, enc8]⟩
theorem RepoR.a_work {p_g : Value} {p_x : Value} {p_d : Value} {s : RepoR} : At (RepoR.enc p_g p_x p_d s) 3 (encN File.enc s.work 8) := ⟨[p_g] ++ ([p_x] ++ ([p_d])), (encI s.n), by simp [RepoR.enc], by simp [encN_len File.len, File.len, enc8]⟩
theorem RepoR.u_n {p_g : Value} {p_x : Value} {p_d : Value} {s : RepoR} {x : Int} : Upd (RepoR.enc p_g p_x p_d s) 27 (encI s.n) (encI x) (RepoR.enc p_g p_x p_d { s with n := x }) := ⟨[p_g] ++ ([p_x] ++ ([p_d] ++ ((encN File.enc s.work 8)))), [], by simp [RepoR.enc], by simp [RepoR.enc], by simp [encN_len File.len, File.len, enc8], rfl⟩
theorem RepoR.a_n {p_g : Value} {p_x : Value} {p_d : Value} {s : RepoR} : At (RepoR.enc p_g p_x p_d s) 27 (encI s.n) := ⟨[p_g] ++ ([p_x] ++ ([p_d] ++ ((encN File.enc s.work 8)))), [], by simp [RepoR.enc], by simp [encN_len File.len, File.len, enc8]⟩
structure RepoM where
  nodes : (List Node)
  nxt : Int
  refs : (List Ref_)
  head : Head
  index : (List File)
  work : (List File)
  room : Int
  lax : Bool
def RepoM.zero : RepoM := { nodes := [], nxt := 0, refs := [], head := Head.zero, index := [], work := [], room := 0, lax := false }
def RepoM.enc (p_nodes : Value) (p_refs : Value) (p_index : Value) (p_work : Value) (s : RepoM) : List Value := [p_nodes] ++ ((encI s.nxt) ++ ([p_refs] ++ ((Head.enc s.head) ++ ([p_index] ++ ([p_work] ++ ((encI s.room) ++ ((encB s.lax))))))))
theorem RepoM.len (p_nodes : Value) (p_refs : Value) (p_index : Value) (p_work : Value) (s : RepoM) : (RepoM.enc p_nodes p_refs p_index p_work s).length = 10 := by simp [RepoM.enc, Head.len, enc8]
theorem RepoM.plain {p_nodes : Value} {p_refs : Value} {p_index : Value} {p_work : Value} (h_p_nodes : plainV p_nodes = true) (h_p_refs : plainV p_refs = true) (h_p_index : plainV p_index = true) (h_p_work : plainV p_work = true) (s : RepoM) : (RepoM.enc p_nodes p_refs p_index p_work s).all plainV = true := (all2 (all1 h_p_nodes) (all2 rfl (all2 (all1 h_p_refs) (all2 (Head.plain _) (all2 (all1 h_p_index) (all2 (all1 h_p_work) (all2 rfl rfl)))))))
theorem RepoM.u_nodes {p_nodes : Value} {p_refs : Value} {p_index : Value} {p_work : Value} {s : RepoM} {v : Value} : Upd (RepoM.enc p_nodes p_refs p_index p_work s) 0 [p_nodes] [v] (RepoM.enc v p_refs p_index p_work s) := ⟨[], (encI s.nxt) ++ ([p_refs] ++ ((Head.enc s.head) ++ ([p_index] ++ ([p_work] ++ ((encI s.room) ++ ((encB s.lax))))))), by simp [RepoM.enc], by simp [RepoM.enc], by simp [Head.len, enc8], rfl⟩
theorem RepoM.a_nodes {p_nodes : Value} {p_refs : Value} {p_index : Value} {p_work : Value} {s : RepoM} : At (RepoM.enc p_nodes p_refs p_index p_work s) 0 [p_nodes] := ⟨[], (encI s.nxt) ++ ([p_refs] ++ ((Head.enc s.head) ++ ([p_index] ++ ([p_work] ++ ((encI s.room) ++ ((encB s.lax))))))), by simp [RepoM.enc], by simp [Head.len, enc8]⟩
theorem RepoM.u_nxt {p_nodes : Value} {p_refs : Value} {p_index : Value} {p_work : Value} {s : RepoM} {x : Int} : Upd (RepoM.enc p_nodes p_refs p_index p_work s) 1 (encI s.nxt) (encI x) (RepoM.enc p_nodes p_refs p_index p_work { s with nxt := x }) := ⟨[p_nodes], [p_refs] ++ ((Head.enc s.head) ++ ([p_index] ++ ([p_work] ++ ((encI s.room) ++ ((encB s.lax)))))), by simp [RepoM.enc], by simp [RepoM.enc], by simp [Head.len, enc8], rfl⟩
theorem RepoM.a_nxt {p_nodes : Value} {p_refs : Value} {p_index : Value} {p_work : Value} {s : RepoM} : At (RepoM.enc p_nodes p_refs p_index p_work s) 1 (encI s.nxt) := ⟨[p_nodes], [p_refs] ++ ((Head.enc s.head) ++ ([p_index] ++ ([p_work] ++ ((encI s.room) ++ ((encB s.lax)))))), by simp [RepoM.enc], by simp [Head.len, enc8]⟩
theorem RepoM.u_refs {p_nodes : Value} {p_refs : Value} {p_index : Value} {p_work : Value} {s : RepoM} {v : Value} : Upd (RepoM.enc p_nodes p_refs p_index p_work s) 2 [p_refs] [v] (RepoM.enc p_nodes v p_index p_work s) := ⟨[p_nodes] ++ ((encI s.nxt)), (Head.enc s.head) ++ ([p_index] ++ ([p_work] ++ ((encI s.room) ++ ((encB s.lax))))), by simp [RepoM.enc], by simp [RepoM.enc], by simp [Head.len, enc8], rfl⟩
theorem RepoM.a_refs {p_nodes : Value} {p_refs : Value} {p_index : Value} {p_work : Value} {s : RepoM} : At (RepoM.enc p_nodes p_refs p_index p_work s) 2 [p_refs] := ⟨[p_nodes] ++ ((encI s.nxt)), (Head.enc s.head) ++ ([p_index] ++ ([p_work] ++ ((encI s.room) ++ ((encB s.lax))))), by simp [RepoM.enc], by simp [Head.len, enc8]⟩
theorem RepoM.u_head {p_nodes : Value} {p_refs : Value} {p_index : Value} {p_work : Value} {s : RepoM} {x : Head} : Upd (RepoM.enc p_nodes p_refs p_index p_work s) 3 (Head.enc s.head) (Head.enc x) (RepoM.enc p_nodes p_refs p_index p_work { s with head := x }) := ⟨[p_nodes] ++ ((encI s.nxt) ++ ([p_refs])), [p_index] ++ ([p_work] ++ ((encI s.room) ++ ((encB s.lax)))), by simp [RepoM.enc], by simp [RepoM.enc], by simp [Head.len, enc8], by simp [Head.len, enc8]⟩
theorem RepoM.a_head {p_nodes : Value} {p_refs : Value} {p_index : Value} {p_work : Value} {s : RepoM} : At (RepoM.enc p_nodes p_refs p_index p_work s) 3 (Head.enc s.head) := ⟨[p_nodes] ++ ((encI s.nxt) ++ ([p_refs])), [p_index] ++ ([p_work] ++ ((encI s.room) ++ ((encB s.lax)))), by simp [RepoM.enc], by simp [Head.len, enc8]⟩
theorem RepoM.u_index {p_nodes : Value} {p_refs : Value} {p_index : Value} {p_work : Value} {s : RepoM} {v : Value} : Upd (RepoM.enc p_nodes p_refs p_index p_work s) 6 [p_index] [v] (RepoM.enc p_nodes p_refs v p_work s) := ⟨[p_nodes] ++ ((encI s.nxt) ++ ([p_refs] ++ ((Head.enc s.head)))), [p_work] ++ ((encI s.room) ++ ((encB s.lax))), by simp [RepoM.enc], by simp [RepoM.enc], by simp [Head.len, enc8], rfl⟩
theorem RepoM.a_index {p_nodes : Value} {p_refs : Value} {p_index : Value} {p_work : Value} {s : RepoM} : At (RepoM.enc p_nodes p_refs p_index p_work s) 6 [p_index] := ⟨[p_nodes] ++ ((encI s.nxt) ++ ([p_refs] ++ ((Head.enc s.head)))), [p_work] ++ ((encI s.room) ++ ((encB s.lax))), by simp [RepoM.enc], by simp [Head.len, enc8]⟩
theorem RepoM.u_work {p_nodes : Value} {p_refs : Value} {p_index : Value} {p_work : Value} {s : RepoM} {v : Value} : Upd (RepoM.enc p_nodes p_refs p_index p_work s) 7 [p_work] [v] (RepoM.enc p_nodes p_refs p_index v s) := ⟨[p_nodes] ++ ((encI s.nxt) ++ ([p_refs] ++ ((Head.enc s.head) ++ ([p_index])))), (encI s.room) ++ ((encB s.lax)), by simp [RepoM.enc], by simp [RepoM.enc], by simp [Head.len, enc8], rfl⟩
theorem RepoM.a_work {p_nodes : Value} {p_refs : Value} {p_index : Value} {p_work : Value} {s : RepoM} : At (RepoM.enc p_nodes p_refs p_index p_work s) 7 [p_work] := ⟨[p_nodes] ++ ((encI s.nxt) ++ ([p_refs] ++ ((Head.enc s.head) ++ ([p_index])))), (encI s.room) ++ ((encB s.lax)), by simp [RepoM.enc], by simp [Head.len, enc8]⟩
theorem RepoM.u_room {p_nodes : Value} {p_refs : Value} {p_index : Value} {p_work : Value} {s : RepoM} {x : Int} : Upd (RepoM.enc p_nodes p_refs p_index p_work s) 8 (encI s.room) (encI x) (RepoM.enc p_nodes p_refs p_index p_work { s with room := x }) := ⟨[p_nodes] ++ ((encI s.nxt) ++ ([p_refs] ++ ((Head.enc s.head) ++ ([p_index] ++ ([p_work]))))), (encB s.lax), by simp [RepoM.enc], by simp [RepoM.enc], by simp [Head.len, enc8], rfl⟩
theorem RepoM.a_room {p_nodes : Value} {p_refs : Value} {p_index : Value} {p_work : Value} {s : RepoM} : At (RepoM.enc p_nodes p_refs p_index p_work s) 8 (encI s.room) := ⟨[p_nodes] ++ ((encI s.nxt) ++ ([p_refs] ++ ((Head.enc s.head) ++ ([p_index] ++ ([p_work]))))), (encB s.lax), by simp [RepoM.enc], by simp [Head.len, enc8]⟩
theorem RepoM.u_lax {p_nodes : Value} {p_refs : Value} {p_index : Value} {p_work : Value} {s : RepoM} {x : Bool} : Upd (RepoM.enc p_nodes p_refs p_index p_work s) 9 (encB s.lax) (encB x) (RepoM.enc p_nodes p_refs p_index p_work { s with lax := x }) := ⟨[p_nodes] ++ ((encI s.nxt) ++ ([p_refs] ++ ((Head.enc s.head) ++ ([p_index] ++ ([p_work] ++ ((encI s.room))))))), [], by simp [RepoM.enc], by simp [RepoM.enc], by simp [Head.len, enc8], rfl⟩
theorem RepoM.a_lax {p_nodes : Value} {p_refs : Value} {p_index : Value} {p_work : Value} {s : RepoM} : At (RepoM.enc p_nodes p_refs p_index p_work s) 9 (encB s.lax) := ⟨[p_nodes] ++ ((encI s.nxt) ++ ([p_refs] ++ ((Head.enc s.head) ++ ([p_index] ++ ([p_work] ++ ((encI s.room))))))), [], by simp [RepoM.enc], by simp [Head.len, enc8]⟩
structure Tally where
  seen : (Int → Bool)
  files : Int
  bad : Bool
def Tally.zero : Tally := { seen := (fun _ => false), files := 0, bad := false }
def Tally.enc (s : Tally) : List Value := (encN encB s.seen 49) ++ ((encI s.files) ++ ((encB s.bad)))
theorem Tally.len (s : Tally) : (Tally.enc s).length = 51 := by simp [Tally.enc, encN_len encB_len, encB_len, enc8]
theorem Tally.plain (s : Tally) : (Tally.enc s).all plainV = true := (all2 (encN_plain (fun _ => rfl) _ _) (all2 rfl rfl))
theorem Tally.u_seen {s : Tally} {x : (Int → Bool)} : Upd (Tally.enc s) 0 (encN encB s.seen 49) (encN encB x 49) (Tally.enc { s with seen := x }) := ⟨[], (encI s.files) ++ ((encB s.bad)), by simp [Tally.enc], by simp [Tally.enc], by simp [encN_len encB_len, encB_len, enc8], by simp [encN_len encB_len, encB_len, enc8]⟩
theorem Tally.a_seen {s : Tally} : At (Tally.enc s) 0 (encN encB s.seen 49) := ⟨[], (encI s.files) ++ ((encB s.bad)), by simp [Tally.enc], by simp [encN_len encB_len, encB_len, enc8]⟩
theorem Tally.u_files {s : Tally} {x : Int} : Upd (Tally.enc s) 49 (encI s.files) (encI x) (Tally.enc { s with files := x }) := ⟨(encN encB s.seen 49), (encB s.bad), by simp [Tally.enc], by simp [Tally.enc], by simp [encN_len encB_len, encB_len, enc8], rfl⟩
theorem Tally.a_files {s : Tally} : At (Tally.enc s) 49 (encI s.files) := ⟨(encN encB s.seen 49), (encB s.bad), by simp [Tally.enc], by simp [encN_len encB_len, encB_len, enc8]⟩
theorem Tally.u_bad {s : Tally} {x : Bool} : Upd (Tally.enc s) 50 (encB s.bad) (encB x) (Tally.enc { s with bad := x }) := ⟨(encN encB s.seen 49) ++ ((encI s.files)), [], by simp [Tally.enc], by simp [Tally.enc], by simp [encN_len encB_len, encB_len, enc8], rfl⟩
theorem Tally.a_bad {s : Tally} : At (Tally.enc s) 50 (encB s.bad) := ⟨(encN encB s.seen 49) ++ ((encI s.files)), [], by simp [Tally.enc], by simp [encN_len encB_len, encB_len, enc8]⟩
structure Texts where
  b : (List Str)
  o : (List Str)
  t : (List Str)
  nb : (List Int)
  no : (List Int)
  nt : (List Int)
def Texts.zero : Texts := { b := [], o := [], t := [], nb := [], no := [], nt := [] }
def Texts.enc (p_b : Value) (p_o : Value) (p_t : Value) (p_nb : Value) (p_no : Value) (p_nt : Value) (s : Texts) : List Value := [p_b] ++ ([p_o] ++ ([p_t] ++ ([p_nb] ++ ([p_no] ++ ([p_nt])))))
theorem Texts.len (p_b : Value) (p_o : Value) (p_t : Value) (p_nb : Value) (p_no : Value) (p_nt : Value) (s : Texts) : (Texts.enc p_b p_o p_t p_nb p_no p_nt s).length = 6 := by simp [Texts.enc, enc8]
theorem Texts.plain {p_b : Value} {p_o : Value} {p_t : Value} {p_nb : Value} {p_no : Value} {p_nt : Value} (h_p_b : plainV p_b = true) (h_p_o : plainV p_o = true) (h_p_t : plainV p_t = true) (h_p_nb : plainV p_nb = true) (h_p_no : plainV p_no = true) (h_p_nt : plainV p_nt = true) (s : Texts) : (Texts.enc p_b p_o p_t p_nb p_no p_nt s).all plainV = true := (all2 (all1 h_p_b) (all2 (all1 h_p_o) (all2 (all1 h_p_t) (all2 (all1 h_p_nb) (all2 (all1 h_p_no) (all1 h_p_nt))))))
theorem Texts.u_b {p_b : Value} {p_o : Value} {p_t : Value} {p_nb : Value} {p_no : Value} {p_nt : Value} {s : Texts} {v : Value} : Upd (Texts.enc p_b p_o p_t p_nb p_no p_nt s) 0 [p_b] [v] (Texts.enc v p_o p_t p_nb p_no p_nt s) := ⟨[], [p_o] ++ ([p_t] ++ ([p_nb] ++ ([p_no] ++ ([p_nt])))), by simp [Texts.enc], by simp [Texts.enc], by simp [enc8], rfl⟩
theorem Texts.a_b {p_b : Value} {p_o : Value} {p_t : Value} {p_nb : Value} {p_no : Value} {p_nt : Value} {s : Texts} : At (Texts.enc p_b p_o p_t p_nb p_no p_nt s) 0 [p_b] := ⟨[], [p_o] ++ ([p_t] ++ ([p_nb] ++ ([p_no] ++ ([p_nt])))), by simp [Texts.enc], by simp [enc8]⟩
theorem Texts.u_o {p_b : Value} {p_o : Value} {p_t : Value} {p_nb : Value} {p_no : Value} {p_nt : Value} {s : Texts} {v : Value} : Upd (Texts.enc p_b p_o p_t p_nb p_no p_nt s) 1 [p_o] [v] (Texts.enc p_b v p_t p_nb p_no p_nt s) := ⟨[p_b], [p_t] ++ ([p_nb] ++ ([p_no] ++ ([p_nt]))), by simp [Texts.enc], by simp [Texts.enc], by simp [enc8], rfl⟩
theorem Texts.a_o {p_b : Value} {p_o : Value} {p_t : Value} {p_nb : Value} {p_no : Value} {p_nt : Value} {s : Texts} : At (Texts.enc p_b p_o p_t p_nb p_no p_nt s) 1 [p_o] := ⟨[p_b], [p_t] ++ ([p_nb] ++ ([p_no] ++ ([p_nt]))), by simp [Texts.enc], by simp [enc8]⟩
theorem Texts.u_t {p_b : Value} {p_o : Value} {p_t : Value} {p_nb : Value} {p_no : Value} {p_nt : Value} {s : Texts} {v : Value} : Upd (Texts.enc p_b p_o p_t p_nb p_no p_nt s) 2 [p_t] [v] (Texts.enc p_b p_o v p_nb p_no p_nt s) := ⟨[p_b] ++ ([p_o]), [p_nb] ++ ([p_no] ++ ([p_nt])), by simp [Texts.enc], by simp [Texts.enc], by simp [enc8], rfl⟩
theorem Texts.a_t {p_b : Value} {p_o : Value} {p_t : Value} {p_nb : Value} {p_no : Value} {p_nt : Value} {s : Texts} : At (Texts.enc p_b p_o p_t p_nb p_no p_nt s) 2 [p_t] := ⟨[p_b] ++ ([p_o]), [p_nb] ++ ([p_no] ++ ([p_nt])), by simp [Texts.enc], by simp [enc8]⟩
theorem Texts.u_nb {p_b : Value} {p_o : Value} {p_t : Value} {p_nb : Value} {p_no : Value} {p_nt : Value} {s : Texts} {v : Value} : Upd (Texts.enc p_b p_o p_t p_nb p_no p_nt s) 3 [p_nb] [v] (Texts.enc p_b p_o p_t v p_no p_nt s) := ⟨[p_b] ++ ([p_o] ++ ([p_t])), [p_no] ++ ([p_nt]), by simp [Texts.enc], by simp [Texts.enc], by simp [enc8], rfl⟩
theorem Texts.a_nb {p_b : Value} {p_o : Value} {p_t : Value} {p_nb : Value} {p_no : Value} {p_nt : Value} {s : Texts} : At (Texts.enc p_b p_o p_t p_nb p_no p_nt s) 3 [p_nb] := ⟨[p_b] ++ ([p_o] ++ ([p_t])), [p_no] ++ ([p_nt]), by simp [Texts.enc], by simp [enc8]⟩
theorem Texts.u_no {p_b : Value} {p_o : Value} {p_t : Value} {p_nb : Value} {p_no : Value} {p_nt : Value} {s : Texts} {v : Value} : Upd (Texts.enc p_b p_o p_t p_nb p_no p_nt s) 4 [p_no] [v] (Texts.enc p_b p_o p_t p_nb v p_nt s) := ⟨[p_b] ++ ([p_o] ++ ([p_t] ++ ([p_nb]))), [p_nt], by simp [Texts.enc], by simp [Texts.enc], by simp [enc8], rfl⟩
theorem Texts.a_no {p_b : Value} {p_o : Value} {p_t : Value} {p_nb : Value} {p_no : Value} {p_nt : Value} {s : Texts} : At (Texts.enc p_b p_o p_t p_nb p_no p_nt s) 4 [p_no] := ⟨[p_b] ++ ([p_o] ++ ([p_t] ++ ([p_nb]))), [p_nt], by simp [Texts.enc], by simp [enc8]⟩
theorem Texts.u_nt {p_b : Value} {p_o : Value} {p_t : Value} {p_nb : Value} {p_no : Value} {p_nt : Value} {s : Texts} {v : Value} : Upd (Texts.enc p_b p_o p_t p_nb p_no p_nt s) 5 [p_nt] [v] (Texts.enc p_b p_o p_t p_nb p_no v s) := ⟨[p_b] ++ ([p_o] ++ ([p_t] ++ ([p_nb] ++ ([p_no])))), [], by simp [Texts.enc], by simp [Texts.enc], by simp [enc8], rfl⟩
theorem Texts.a_nt {p_b : Value} {p_o : Value} {p_t : Value} {p_nb : Value} {p_no : Value} {p_nt : Value} {s : Texts} : At (Texts.enc p_b p_o p_t p_nb p_no p_nt s) 5 [p_nt] := ⟨[p_b] ++ ([p_o] ++ ([p_t] ++ ([p_nb] ++ ([p_no])))), [], by simp [Texts.enc], by simp [enc8]⟩
structure Tabl where
  w : Int
  flat : (List Int)
def Tabl.zero : Tabl := { w := 0, flat := [] }
def Tabl.enc (p_flat : Value) (s : Tabl) : List Value := (encI s.w) ++ ([p_flat])
theorem Tabl.len (p_flat : Value) (s : Tabl) : (Tabl.enc p_flat s).length = 2 := by simp [Tabl.enc, enc8]
theorem Tabl.plain {p_flat : Value} (h_p_flat : plainV p_flat = true) (s : Tabl) : (Tabl.enc p_flat s).all plainV = true := (all2 rfl (all1 h_p_flat))
theorem Tabl.u_w {p_flat : Value} {s : Tabl} {x : Int} : Upd (Tabl.enc p_flat s) 0 (encI s.w) (encI x) (Tabl.enc p_flat { s with w := x }) := ⟨[], [p_flat], by simp [Tabl.enc], by simp [Tabl.enc], by simp [enc8], rfl⟩
theorem Tabl.a_w {p_flat : Value} {s : Tabl} : At (Tabl.enc p_flat s) 0 (encI s.w) := ⟨[], [p_flat], by simp [Tabl.enc], by simp [enc8]⟩
theorem Tabl.u_flat {p_flat : Value} {s : Tabl} {v : Value} : Upd (Tabl.enc p_flat s) 1 [p_flat] [v] (Tabl.enc v s) := ⟨(encI s.w), [], by simp [Tabl.enc], by simp [Tabl.enc], by simp [enc8], rfl⟩
theorem Tabl.a_flat {p_flat : Value} {s : Tabl} : At (Tabl.enc p_flat s) 1 [p_flat] := ⟨(encI s.w), [], by simp [Tabl.enc], by simp [enc8]⟩
def Tower.enc (p_o : Value) (p_t : Value) (p_g : Value) (p_x : Value) (p_e : Value) (p_r : Value) : List Value := [p_o] ++ ([p_t] ++ ([p_g] ++ ([p_x] ++ ([p_e] ++ ([p_r])))))
theorem Tower.len (p_o : Value) (p_t : Value) (p_g : Value) (p_x : Value) (p_e : Value) (p_r : Value) : (Tower.enc p_o p_t p_g p_x p_e p_r).length = 6 := by simp [Tower.enc, enc8]
theorem Tower.plain {p_o : Value} {p_t : Value} {p_g : Value} {p_x : Value} {p_e : Value} {p_r : Value} (h_p_o : plainV p_o = true) (h_p_t : plainV p_t = true) (h_p_g : plainV p_g = true) (h_p_x : plainV p_x = true) (h_p_e : plainV p_e = true) (h_p_r : plainV p_r = true) : (Tower.enc p_o p_t p_g p_x p_e p_r).all plainV = true := (all2 (all1 h_p_o) (all2 (all1 h_p_t) (all2 (all1 h_p_g) (all2 (all1 h_p_x) (all2 (all1 h_p_e) (all1 h_p_r))))))
theorem Tower.u_o {p_o : Value} {p_t : Value} {p_g : Value} {p_x : Value} {p_e : Value} {p_r : Value} {v : Value} : Upd (Tower.enc p_o p_t p_g p_x p_e p_r) 0 [p_o] [v] (Tower.enc v p_t p_g p_x p_e p_r) := ⟨[], [p_t] ++ ([p_g] ++ ([p_x] ++ ([p_e] ++ ([p_r])))), by simp [Tower.enc], by simp [Tower.enc], by simp [enc8], rfl⟩
theorem Tower.a_o {p_o : Value} {p_t : Value} {p_g : Value} {p_x : Value} {p_e : Value} {p_r : Value} : At (Tower.enc p_o p_t p_g p_x p_e p_r) 0 [p_o] := ⟨[], [p_t] ++ ([p_g] ++ ([p_x] ++ ([p_e] ++ ([p_r])))), by simp [Tower.enc], by simp [enc8]⟩
theorem Tower.u_t {p_o : Value} {p_t : Value} {p_g : Value} {p_x : Value} {p_e : Value} {p_r : Value} {v : Value} : Upd (Tower.enc p_o p_t p_g p_x p_e p_r) 1 [p_t] [v] (Tower.enc p_o v p_g p_x p_e p_r) := ⟨[p_o], [p_g] ++ ([p_x] ++ ([p_e] ++ ([p_r]))), by simp [Tower.enc], by simp [Tower.enc], by simp [enc8], rfl⟩
theorem Tower.a_t {p_o : Value} {p_t : Value} {p_g : Value} {p_x : Value} {p_e : Value} {p_r : Value} : At (Tower.enc p_o p_t p_g p_x p_e p_r) 1 [p_t] := ⟨[p_o], [p_g] ++ ([p_x] ++ ([p_e] ++ ([p_r]))), by simp [Tower.enc], by simp [enc8]⟩
theorem Tower.u_g {p_o : Value} {p_t : Value} {p_g : Value} {p_x : Value} {p_e : Value} {p_r : Value} {v : Value} : Upd (Tower.enc p_o p_t p_g p_x p_e p_r) 2 [p_g] [v] (Tower.enc p_o p_t v p_x p_e p_r) := ⟨[p_o] ++ ([p_t]), [p_x] ++ ([p_e] ++ ([p_r])), by simp [Tower.enc], by simp [Tower.enc], by simp [enc8], rfl⟩
theorem Tower.a_g {p_o : Value} {p_t : Value} {p_g : Value} {p_x : Value} {p_e : Value} {p_r : Value} : At (Tower.enc p_o p_t p_g p_x p_e p_r) 2 [p_g] := ⟨[p_o] ++ ([p_t]), [p_x] ++ ([p_e] ++ ([p_r])), by simp [Tower.enc], by simp [enc8]⟩
theorem Tower.u_x {p_o : Value} {p_t : Value} {p_g : Value} {p_x : Value} {p_e : Value} {p_r : Value} {v : Value} : Upd (Tower.enc p_o p_t p_g p_x p_e p_r) 3 [p_x] [v] (Tower.enc p_o p_t p_g v p_e p_r) := ⟨[p_o] ++ ([p_t] ++ ([p_g])), [p_e] ++ ([p_r]), by simp [Tower.enc], by simp [Tower.enc], by simp [enc8], rfl⟩
theorem Tower.a_x {p_o : Value} {p_t : Value} {p_g : Value} {p_x : Value} {p_e : Value} {p_r : Value} : At (Tower.enc p_o p_t p_g p_x p_e p_r) 3 [p_x] := ⟨[p_o] ++ ([p_t] ++ ([p_g])), [p_e] ++ ([p_r]), by simp [Tower.enc], by simp [enc8]⟩
theorem Tower.u_e {p_o : Value} {p_t : Value} {p_g : Value} {p_x : Value} {p_e : Value} {p_r : Value} {v : Value} : Upd (Tower.enc p_o p_t p_g p_x p_e p_r) 4 [p_e] [v] (Tower.enc p_o p_t p_g p_x v p_r) := ⟨[p_o] ++ ([p_t] ++ ([p_g] ++ ([p_x]))), [p_r], by simp [Tower.enc], by simp [Tower.enc], by simp [enc8], rfl⟩
theorem Tower.a_e {p_o : Value} {p_t : Value} {p_g : Value} {p_x : Value} {p_e : Value} {p_r : Value} : At (Tower.enc p_o p_t p_g p_x p_e p_r) 4 [p_e] := ⟨[p_o] ++ ([p_t] ++ ([p_g] ++ ([p_x]))), [p_r], by simp [Tower.enc], by simp [enc8]⟩
theorem Tower.u_r {p_o : Value} {p_t : Value} {p_g : Value} {p_x : Value} {p_e : Value} {p_r : Value} {v : Value} : Upd (Tower.enc p_o p_t p_g p_x p_e p_r) 5 [p_r] [v] (Tower.enc p_o p_t p_g p_x p_e v) := ⟨[p_o] ++ ([p_t] ++ ([p_g] ++ ([p_x] ++ ([p_e])))), [], by simp [Tower.enc], by simp [Tower.enc], by simp [enc8], rfl⟩
theorem Tower.a_r {p_o : Value} {p_t : Value} {p_g : Value} {p_x : Value} {p_e : Value} {p_r : Value} : At (Tower.enc p_o p_t p_g p_x p_e p_r) 5 [p_r] := ⟨[p_o] ++ ([p_t] ++ ([p_g] ++ ([p_x] ++ ([p_e])))), [], by simp [Tower.enc], by simp [enc8]⟩
structure Below where
  rooted : Bool
def Below.zero : Below := { rooted := false }
def Below.enc (p_d : Value) (p_w_o : Value) (p_w_t : Value) (p_w_g : Value) (p_w_x : Value) (p_w_e : Value) (p_w_r : Value) (s : Below) : List Value := [p_d] ++ ((Tower.enc p_w_o p_w_t p_w_g p_w_x p_w_e p_w_r) ++ ((encB s.rooted)))
theorem Below.len (p_d : Value) (p_w_o : Value) (p_w_t : Value) (p_w_g : Value) (p_w_x : Value) (p_w_e : Value) (p_w_r : Value) (s : Below) : (Below.enc p_d p_w_o p_w_t p_w_g p_w_x p_w_e p_w_r s).length = 8 := by simp [Below.enc, Tower.len, enc8]
theorem Below.plain {p_d : Value} {p_w_o : Value} {p_w_t : Value} {p_w_g : Value} {p_w_x : Value} {p_w_e : Value} {p_w_r : Value} (h_p_d : plainV p_d = true) (h_p_w_o : plainV p_w_o = true) (h_p_w_t : plainV p_w_t = true) (h_p_w_g : plainV p_w_g = true) (h_p_w_x : plainV p_w_x = true) (h_p_w_e : plainV p_w_e = true) (h_p_w_r : plainV p_w_r = true) (s : Below) : (Below.enc p_d p_w_o p_w_t p_w_g p_w_x p_w_e p_w_r s).all plainV = true := (all2 (all1 h_p_d) (all2 (Tower.plain h_p_w_o h_p_w_t h_p_w_g h_p_w_x h_p_w_e h_p_w_r) rfl))
theorem Below.u_d {p_d : Value} {p_w_o : Value} {p_w_t : Value} {p_w_g : Value} {p_w_x : Value} {p_w_e : Value} {p_w_r : Value} {s : Below} {v : Value} : Upd (Below.enc p_d p_w_o p_w_t p_w_g p_w_x p_w_e p_w_r s) 0 [p_d] [v] (Below.enc v p_w_o p_w_t p_w_g p_w_x p_w_e p_w_r s) := ⟨[], (Tower.enc p_w_o p_w_t p_w_g p_w_x p_w_e p_w_r) ++ ((encB s.rooted)), by simp [Below.enc], by simp [Below.enc], by simp [Tower.len, enc8], rfl⟩
theorem Below.a_d {p_d : Value} {p_w_o : Value} {p_w_t : Value} {p_w_g : Value} {p_w_x : Value} {p_w_e : Value} {p_w_r : Value} {s : Below} : At (Below.enc p_d p_w_o p_w_t p_w_g p_w_x p_w_e p_w_r s) 0 [p_d] := ⟨[], (Tower.enc p_w_o p_w_t p_w_g p_w_x p_w_e p_w_r) ++ ((encB s.rooted)), by simp [Below.enc], by simp [Tower.len, enc8]⟩
theorem Below.u_w {p_d : Value} {p_w_o : Value} {p_w_t : Value} {p_w_g : Value} {p_w_x : Value} {p_w_e : Value} {p_w_r : Value} {q_o : Value} {q_t : Value} {q_g : Value} {q_x : Value} {q_e : Value} {q_r : Value} {s : Below} : Upd (Below.enc p_d p_w_o p_w_t p_w_g p_w_x p_w_e p_w_r s) 1 (Tower.enc p_w_o p_w_t p_w_g p_w_x p_w_e p_w_r) (Tower.enc q_o q_t q_g q_x q_e q_r) (Below.enc p_d q_o q_t q_g q_x q_e q_r s) := ⟨[p_d], (encB s.rooted), by simp [Below.enc], by simp [Below.enc], by simp [Tower.len, enc8], by simp [Tower.len, enc8]⟩
theorem Below.a_w {p_d : Value} {p_w_o : Value} {p_w_t : Value} {p_w_g : Value} {p_w_x : Value} {p_w_e : Value} {p_w_r : Value} {s : Below} : At (Below.enc p_d p_w_o p_w_t p_w_g p_w_x p_w_e p_w_r s) 1 (Tower.enc p_w_o p_w_t p_w_g p_w_x p_w_e p_w_r) := ⟨[p_d], (encB s.rooted), by simp [Below.enc], by simp [Tower.len, enc8]⟩
theorem Below.u_rooted {p_d : Value} {p_w_o : Value} {p_w_t : Value} {p_w_g : Value} {p_w_x : Value} {p_w_e : Value} {p_w_r : Value} {s : Below} {x : Bool} : Upd (Below.enc p_d p_w_o p_w_t p_w_g p_w_x p_w_e p_w_r s) 7 (encB s.rooted) (encB x) (Below.enc p_d p_w_o p_w_t p_w_g p_w_x p_w_e p_w_r { s with rooted := x }) := ⟨[p_d] ++ ((Tower.enc p_w_o p_w_t p_w_g p_w_x p_w_e p_w_r)), [], by simp [Below.enc], by simp [Below.enc], by simp [Tower.len, enc8], rfl⟩
theorem Below.a_rooted {p_d : Value} {p_w_o : Value} {p_w_t : Value} {p_w_g : Value} {p_w_x : Value} {p_w_e : Value} {p_w_r : Value} {s : Below} : At (Below.enc p_d p_w_o p_w_t p_w_g p_w_x p_w_e p_w_r s) 7 (encB s.rooted) := ⟨[p_d] ++ ((Tower.enc p_w_o p_w_t p_w_g p_w_x p_w_e p_w_r)), [], by simp [Below.enc], by simp [Tower.len, enc8]⟩
end Go.Proofs.Qxb6500350aGreat
