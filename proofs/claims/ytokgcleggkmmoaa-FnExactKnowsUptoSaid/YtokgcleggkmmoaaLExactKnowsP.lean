/- What each function of FnExactKnows comes to. -/
import Derived.Test.YtokgcleggkmmoaaLExactKnowsC
set_option linter.unusedVariables false
set_option linter.unusedSimpArgs false
namespace AM
open Go
set_option maxRecDepth 100000
instance : Enc ByteArray where
  sz := 1
  cells _ s := [.v (.string s)]
  len _ _ := rfl
  fz _ _ := rfl
  own _ := rfl
  pos := by decide
@[simp] theorem bytes_cells (o : Bool) (s : ByteArray) : Enc.cells o s = [.v (.string s)] := rfl
@[simp] theorem bytes_sz : Enc.sz ByteArray = 1 := rfl
instance : Dec ByteArray where
  ty := .str
  tysz := rfl
  dec ts h := by
    obtain ⟨s, rfl⟩ := mem_str.1 h
    exact ⟨s, rfl⟩

structure Stamp where
  who : Int
  n : Int
  deriving DecidableEq
instance : Enc Stamp where
  sz := 2
  cells o x := [.v (.int .i64 x.who), .v (.int .i64 x.n)]
  len _ _ := rfl
  fz o x := by simp
  own x := by simp
  pos := by decide
@[simp] theorem Stamp.cells (o : Bool) (x : Stamp) : Enc.cells o x = [.v (.int .i64 x.who), .v (.int .i64 x.n)] := rfl
@[simp] theorem Stamp.sz : Enc.sz Stamp = 2 := rfl
instance : Dec Stamp where
  ty := .struct [.int .i64, .int .i64]
  tysz := rfl
  dec ts h := by
    have h := mem_struct.1 h
    obtain ⟨a0, r0, rfl, m0, h⟩ := memL_cons.1 h
    obtain ⟨a1, r1, rfl, m1, h⟩ := memL_cons.1 h
    obtain rfl := memL_nil.1 h
    obtain ⟨x_who, rfl, _⟩ := mem_int.1 m0
    obtain ⟨x_n, rfl, _⟩ := mem_int.1 m1
    exact ⟨⟨x_who, x_n⟩, rfl⟩
theorem laws_toStamp_ok (x : Stamp) (h : sm x) : ret Γ n_laws_toStamp [ag x] = some [.a (Enc.cells true x)] := by
  obtain ⟨x_who, x_n⟩ := x
  refine ret_of g_laws_toStamp ?_
  simp [a_laws_toStamp, c_laws_toStamp]
theorem laws_eqStamp_ok (x y : Stamp) (h : sm x) : ret Γ n_laws_eqStamp [ag x, ag y] = some [.o (.v (.bool (decide (x = y))))] := by
  obtain ⟨x_who, x_n⟩ := x
  obtain ⟨y_who, y_n⟩ := y
  refine ret_of g_laws_eqStamp ?_
  simp [a_laws_eqStamp, c_laws_eqStamp]
  by_cases h0 : x_who = y_who
  rotate_left
  · simp [h0]
  by_cases h1 : x_n = y_n
  rotate_left
  · simp [h0, h1]
  simp [h0, h1]
theorem laws_toStampS_ok (xs : List Stamp) (h : sml xs) : ret Γ n_laws_toStampS [al xs] = some [.o (tl true xs)] := tos_gen [.v (.int .i64 0), .v (.int .i64 0)] rfl g_laws_toStampS (fun _ => rfl) laws_toStamp_ok xs h (by decide)
theorem laws_eqStampS_ok (xs ys : List Stamp) (h : sml xs) : ret Γ n_laws_eqStampS [al xs, al ys] = some [.o (.v (.bool (decide (xs = ys))))] := eqS_gen g_laws_eqStampS laws_eqStamp_ok xs ys h
theorem laws_szStampS_ok (xs : List Stamp) (left : Int) (h : sml xs) (hl : 0 ≤ left ∧ left ≤ 1048576) : ret Γ n_laws_szStampS [al xs, ai left] = some [.o (.v (.int .i64 (if left < xs.length then -1 else left - xs.length)))] := sz0_gen g_laws_szStampS xs left h hl
structure Val where
  ref : Bool
  n : Int
  deriving DecidableEq
instance : Enc Val where
  sz := 2
  cells o x := [.v (.bool x.ref), .v (.int .i64 x.n)]
  len _ _ := rfl
  fz o x := by simp
  own x := by simp
  pos := by decide
@[simp] theorem Val.cells (o : Bool) (x : Val) : Enc.cells o x = [.v (.bool x.ref), .v (.int .i64 x.n)] := rfl
@[simp] theorem Val.sz : Enc.sz Val = 2 := rfl
instance : Dec Val where
  ty := .struct [.bool, .int .i64]
  tysz := rfl
  dec ts h := by
    have h := mem_struct.1 h
    obtain ⟨a0, r0, rfl, m0, h⟩ := memL_cons.1 h
    obtain ⟨a1, r1, rfl, m1, h⟩ := memL_cons.1 h
    obtain rfl := memL_nil.1 h
    obtain ⟨x_ref, rfl⟩ := mem_bool.1 m0
    obtain ⟨x_n, rfl, _⟩ := mem_int.1 m1
    exact ⟨⟨x_ref, x_n⟩, rfl⟩
structure Lock where
  id : Int
  who : Int
  count : Int
  deriving DecidableEq
instance : Enc Lock where
  sz := 3
  cells o x := [.v (.int .i64 x.id), .v (.int .i64 x.who), .v (.int .i64 x.count)]
  len _ _ := rfl
  fz o x := by simp
  own x := by simp
  pos := by decide
@[simp] theorem Lock.cells (o : Bool) (x : Lock) : Enc.cells o x = [.v (.int .i64 x.id), .v (.int .i64 x.who), .v (.int .i64 x.count)] := rfl
@[simp] theorem Lock.sz : Enc.sz Lock = 3 := rfl
instance : Dec Lock where
  ty := .struct [.int .i64, .int .i64, .int .i64]
  tysz := rfl
  dec ts h := by
    have h := mem_struct.1 h
    obtain ⟨a0, r0, rfl, m0, h⟩ := memL_cons.1 h
    obtain ⟨a1, r1, rfl, m1, h⟩ := memL_cons.1 h
    obtain ⟨a2, r2, rfl, m2, h⟩ := memL_cons.1 h
    obtain rfl := memL_nil.1 h
    obtain ⟨x_id, rfl, _⟩ := mem_int.1 m0
    obtain ⟨x_who, rfl, _⟩ := mem_int.1 m1
    obtain ⟨x_count, rfl, _⟩ := mem_int.1 m2
    exact ⟨⟨x_id, x_who, x_count⟩, rfl⟩
structure Object where
  id : Int
  cls : Int
  fields : List Val
  deriving DecidableEq
instance : Enc Object where
  sz := 3
  cells o x := [.v (.int .i64 x.id), .v (.int .i64 x.cls), tl o x.fields]
  len _ _ := rfl
  fz o x := by simp
  own x := by simp
  pos := by decide
@[simp] theorem Object.cells (o : Bool) (x : Object) : Enc.cells o x = [.v (.int .i64 x.id), .v (.int .i64 x.cls), tl o x.fields] := rfl
@[simp] theorem Object.sz : Enc.sz Object = 3 := rfl
instance : Dec Object where
  ty := .struct [.int .i64, .int .i64, .slice (.struct [.bool, .int .i64])]
  tysz := rfl
  dec ts h := by
    have h := mem_struct.1 h
    obtain ⟨a0, r0, rfl, m0, h⟩ := memL_cons.1 h
    obtain ⟨a1, r1, rfl, m1, h⟩ := memL_cons.1 h
    obtain ⟨a2, r2, rfl, m2, h⟩ := memL_cons.1 h
    obtain rfl := memL_nil.1 h
    obtain ⟨x_id, rfl, _⟩ := mem_int.1 m0
    obtain ⟨x_cls, rfl, _⟩ := mem_int.1 m1
    obtain ⟨x_fields, rfl⟩ := dec_list2 (α := Val) m2
    exact ⟨⟨x_id, x_cls, x_fields⟩, rfl⟩
def Object.w (x : Object) : Nat := x.fields.length
structure Memory where
  objects : List Object
  locks : List Lock
  deriving DecidableEq
instance : Enc Memory where
  sz := 2
  cells o x := [tl o x.objects, tl o x.locks]
  len _ _ := rfl
  fz o x := by simp
  own x := by simp
  pos := by decide
@[simp] theorem Memory.cells (o : Bool) (x : Memory) : Enc.cells o x = [tl o x.objects, tl o x.locks] := rfl
@[simp] theorem Memory.sz : Enc.sz Memory = 2 := rfl
instance : Dec Memory where
  ty := .struct [.slice (.struct [.int .i64, .int .i64, .slice (.struct [.bool, .int .i64])]), .slice (.struct [.int .i64, .int .i64, .int .i64])]
  tysz := rfl
  dec ts h := by
    have h := mem_struct.1 h
    obtain ⟨a0, r0, rfl, m0, h⟩ := memL_cons.1 h
    obtain ⟨a1, r1, rfl, m1, h⟩ := memL_cons.1 h
    obtain rfl := memL_nil.1 h
    obtain ⟨x_objects, rfl⟩ := dec_list2 (α := Object) m0
    obtain ⟨x_locks, rfl⟩ := dec_list2 (α := Lock) m1
    exact ⟨⟨x_objects, x_locks⟩, rfl⟩
def Memory.w (x : Memory) : Nat := (x.objects.length + wsum Object.w x.objects) + x.locks.length
structure Frame where
  kind : Int
  method : Int
  pc : Int
  locals : List Val
  stack : List Val
  deriving DecidableEq
instance : Enc Frame where
  sz := 5
  cells o x := [.v (.int .i64 x.kind), .v (.int .i64 x.method), .v (.int .i64 x.pc), tl o x.locals, tl o x.stack]
  len _ _ := rfl
  fz o x := by simp
  own x := by simp
  pos := by decide
@[simp] theorem Frame.cells (o : Bool) (x : Frame) : Enc.cells o x = [.v (.int .i64 x.kind), .v (.int .i64 x.method), .v (.int .i64 x.pc), tl o x.locals, tl o x.stack] := rfl
@[simp] theorem Frame.sz : Enc.sz Frame = 5 := rfl
instance : Dec Frame where
  ty := .struct [.int .i64, .int .i64, .int .i64, .slice (.struct [.bool, .int .i64]), .slice (.struct [.bool, .int .i64])]
  tysz := rfl
  dec ts h := by
    have h := mem_struct.1 h
    obtain ⟨a0, r0, rfl, m0, h⟩ := memL_cons.1 h
    obtain ⟨a1, r1, rfl, m1, h⟩ := memL_cons.1 h
    obtain ⟨a2, r2, rfl, m2, h⟩ := memL_cons.1 h
    obtain ⟨a3, r3, rfl, m3, h⟩ := memL_cons.1 h
    obtain ⟨a4, r4, rfl, m4, h⟩ := memL_cons.1 h
    obtain rfl := memL_nil.1 h
    obtain ⟨x_kind, rfl, _⟩ := mem_int.1 m0
    obtain ⟨x_method, rfl, _⟩ := mem_int.1 m1
    obtain ⟨x_pc, rfl, _⟩ := mem_int.1 m2
    obtain ⟨x_locals, rfl⟩ := dec_list2 (α := Val) m3
    obtain ⟨x_stack, rfl⟩ := dec_list2 (α := Val) m4
    exact ⟨⟨x_kind, x_method, x_pc, x_locals, x_stack⟩, rfl⟩
def Frame.w (x : Frame) : Nat := x.locals.length + x.stack.length
structure Thread where
  id : Int
  frames : List Frame
  state : Int
  made : Int
  deriving DecidableEq
instance : Enc Thread where
  sz := 4
  cells o x := [.v (.int .i64 x.id), tl o x.frames, .v (.int .i64 x.state), .v (.int .i64 x.made)]
  len _ _ := rfl
  fz o x := by simp
  own x := by simp
  pos := by decide
@[simp] theorem Thread.cells (o : Bool) (x : Thread) : Enc.cells o x = [.v (.int .i64 x.id), tl o x.frames, .v (.int .i64 x.state), .v (.int .i64 x.made)] := rfl
@[simp] theorem Thread.sz : Enc.sz Thread = 4 := rfl
instance : Dec Thread where
  ty := .struct [.int .i64, .slice (.struct [.int .i64, .int .i64, .int .i64, .slice (.struct [.bool, .int .i64]), .slice (.struct [.bool, .int .i64])]), .int .i64, .int .i64]
  tysz := rfl
  dec ts h := by
    have h := mem_struct.1 h
    obtain ⟨a0, r0, rfl, m0, h⟩ := memL_cons.1 h
    obtain ⟨a1, r1, rfl, m1, h⟩ := memL_cons.1 h
    obtain ⟨a2, r2, rfl, m2, h⟩ := memL_cons.1 h
    obtain ⟨a3, r3, rfl, m3, h⟩ := memL_cons.1 h
    obtain rfl := memL_nil.1 h
    obtain ⟨x_id, rfl, _⟩ := mem_int.1 m0
    obtain ⟨x_frames, rfl⟩ := dec_list2 (α := Frame) m1
    obtain ⟨x_state, rfl, _⟩ := mem_int.1 m2
    obtain ⟨x_made, rfl, _⟩ := mem_int.1 m3
    exact ⟨⟨x_id, x_frames, x_state, x_made⟩, rfl⟩
def Thread.w (x : Thread) : Nat := (x.frames.length + wsum Frame.w x.frames)
structure Ins where
  op : Int
  n : Int
  deriving DecidableEq
instance : Enc Ins where
  sz := 2
  cells o x := [.v (.int .i64 x.op), .v (.int .i64 x.n)]
  len _ _ := rfl
  fz o x := by simp
  own x := by simp
  pos := by decide
@[simp] theorem Ins.cells (o : Bool) (x : Ins) : Enc.cells o x = [.v (.int .i64 x.op), .v (.int .i64 x.n)] := rfl
@[simp] theorem Ins.sz : Enc.sz Ins = 2 := rfl
instance : Dec Ins where
  ty := .struct [.int .i64, .int .i64]
  tysz := rfl
  dec ts h := by
    have h := mem_struct.1 h
    obtain ⟨a0, r0, rfl, m0, h⟩ := memL_cons.1 h
    obtain ⟨a1, r1, rfl, m1, h⟩ := memL_cons.1 h
    obtain rfl := memL_nil.1 h
    obtain ⟨x_op, rfl, _⟩ := mem_int.1 m0
    obtain ⟨x_n, rfl, _⟩ := mem_int.1 m1
    exact ⟨⟨x_op, x_n⟩, rfl⟩
structure Const where
  kind : Int
  n : Int
  a : ByteArray
  b : ByteArray
  deriving DecidableEq
instance : Enc Const where
  sz := 4
  cells o x := [.v (.int .i64 x.kind), .v (.int .i64 x.n), .v (.string x.a), .v (.string x.b)]
  len _ _ := rfl
  fz o x := by simp
  own x := by simp
  pos := by decide
@[simp] theorem Const.cells (o : Bool) (x : Const) : Enc.cells o x = [.v (.int .i64 x.kind), .v (.int .i64 x.n), .v (.string x.a), .v (.string x.b)] := rfl
@[simp] theorem Const.sz : Enc.sz Const = 4 := rfl
instance : Dec Const where
  ty := .struct [.int .i64, .int .i64, .str, .str]
  tysz := rfl
  dec ts h := by
    have h := mem_struct.1 h
    obtain ⟨a0, r0, rfl, m0, h⟩ := memL_cons.1 h
    obtain ⟨a1, r1, rfl, m1, h⟩ := memL_cons.1 h
    obtain ⟨a2, r2, rfl, m2, h⟩ := memL_cons.1 h
    obtain ⟨a3, r3, rfl, m3, h⟩ := memL_cons.1 h
    obtain rfl := memL_nil.1 h
    obtain ⟨x_kind, rfl, _⟩ := mem_int.1 m0
    obtain ⟨x_n, rfl, _⟩ := mem_int.1 m1
    obtain ⟨x_a, rfl⟩ := mem_str.1 m2
    obtain ⟨x_b, rfl⟩ := mem_str.1 m3
    exact ⟨⟨x_kind, x_n, x_a, x_b⟩, rfl⟩
def Const.w (x : Const) : Nat := x.a.size + x.b.size
structure Field where
  name : ByteArray
  type : ByteArray
  deriving DecidableEq
instance : Enc Field where
  sz := 2
  cells o x := [.v (.string x.name), .v (.string x.type)]
  len _ _ := rfl
  fz o x := by simp
  own x := by simp
  pos := by decide
@[simp] theorem Field.cells (o : Bool) (x : Field) : Enc.cells o x = [.v (.string x.name), .v (.string x.type)] := rfl
@[simp] theorem Field.sz : Enc.sz Field = 2 := rfl
instance : Dec Field where
  ty := .struct [.str, .str]
  tysz := rfl
  dec ts h := by
    have h := mem_struct.1 h
    obtain ⟨a0, r0, rfl, m0, h⟩ := memL_cons.1 h
    obtain ⟨a1, r1, rfl, m1, h⟩ := memL_cons.1 h
    obtain rfl := memL_nil.1 h
    obtain ⟨x_name, rfl⟩ := mem_str.1 m0
    obtain ⟨x_type, rfl⟩ := mem_str.1 m1
    exact ⟨⟨x_name, x_type⟩, rfl⟩
def Field.w (x : Field) : Nat := x.name.size + x.type.size
structure Code where
  name : ByteArray
  owner : Int
  params : List ByteArray
  result : ByteArray
  locals : Int
  list : List Ins
  deriving DecidableEq
instance : Enc Code where
  sz := 6
  cells o x := [.v (.string x.name), .v (.int .i64 x.owner), tl o x.params, .v (.string x.result), .v (.int .i64 x.locals), tl o x.list]
  len _ _ := rfl
  fz o x := by simp
  own x := by simp
  pos := by decide
@[simp] theorem Code.cells (o : Bool) (x : Code) : Enc.cells o x = [.v (.string x.name), .v (.int .i64 x.owner), tl o x.params, .v (.string x.result), .v (.int .i64 x.locals), tl o x.list] := rfl
@[simp] theorem Code.sz : Enc.sz Code = 6 := rfl
instance : Dec Code where
  ty := .struct [.str, .int .i64, .slice .str, .str, .int .i64, .slice (.struct [.int .i64, .int .i64])]
  tysz := rfl
  dec ts h := by
    have h := mem_struct.1 h
    obtain ⟨a0, r0, rfl, m0, h⟩ := memL_cons.1 h
    obtain ⟨a1, r1, rfl, m1, h⟩ := memL_cons.1 h
    obtain ⟨a2, r2, rfl, m2, h⟩ := memL_cons.1 h
    obtain ⟨a3, r3, rfl, m3, h⟩ := memL_cons.1 h
    obtain ⟨a4, r4, rfl, m4, h⟩ := memL_cons.1 h
    obtain ⟨a5, r5, rfl, m5, h⟩ := memL_cons.1 h
    obtain rfl := memL_nil.1 h
    obtain ⟨x_name, rfl⟩ := mem_str.1 m0
    obtain ⟨x_owner, rfl, _⟩ := mem_int.1 m1
    obtain ⟨x_params, rfl⟩ := dec_list2 (α := ByteArray) m2
    obtain ⟨x_result, rfl⟩ := mem_str.1 m3
    obtain ⟨x_locals, rfl, _⟩ := mem_int.1 m4
    obtain ⟨x_list, rfl⟩ := dec_list2 (α := Ins) m5
    exact ⟨⟨x_name, x_owner, x_params, x_result, x_locals, x_list⟩, rfl⟩
def Code.w (x : Code) : Nat := x.name.size + (x.params.length + wsum ByteArray.size x.params) + x.result.size + x.list.length
structure Kind where
  name : ByteArray
  super : Int
  pool : List Const
  fields : List Field
  methods : List Code
  deriving DecidableEq
instance : Enc Kind where
  sz := 5
  cells o x := [.v (.string x.name), .v (.int .i64 x.super), tl o x.pool, tl o x.fields, tl o x.methods]
  len _ _ := rfl
  fz o x := by simp
  own x := by simp
  pos := by decide
@[simp] theorem Kind.cells (o : Bool) (x : Kind) : Enc.cells o x = [.v (.string x.name), .v (.int .i64 x.super), tl o x.pool, tl o x.fields, tl o x.methods] := rfl
@[simp] theorem Kind.sz : Enc.sz Kind = 5 := rfl
instance : Dec Kind where
  ty := .struct [.str, .int .i64, .slice (.struct [.int .i64, .int .i64, .str, .str]), .slice (.struct [.str, .str]), .slice (.struct [.str, .int .i64, .slice .str, .str, .int .i64, .slice (.struct [.int .i64, .int .i64])])]
  tysz := rfl
  dec ts h := by
    have h := mem_struct.1 h
    obtain ⟨a0, r0, rfl, m0, h⟩ := memL_cons.1 h
    obtain ⟨a1, r1, rfl, m1, h⟩ := memL_cons.1 h
    obtain ⟨a2, r2, rfl, m2, h⟩ := memL_cons.1 h
    obtain ⟨a3, r3, rfl, m3, h⟩ := memL_cons.1 h
    obtain ⟨a4, r4, rfl, m4, h⟩ := memL_cons.1 h
    obtain rfl := memL_nil.1 h
    obtain ⟨x_name, rfl⟩ := mem_str.1 m0
    obtain ⟨x_super, rfl, _⟩ := mem_int.1 m1
    obtain ⟨x_pool, rfl⟩ := dec_list2 (α := Const) m2
    obtain ⟨x_fields, rfl⟩ := dec_list2 (α := Field) m3
    obtain ⟨x_methods, rfl⟩ := dec_list2 (α := Code) m4
    exact ⟨⟨x_name, x_super, x_pool, x_fields, x_methods⟩, rfl⟩
def Kind.w (x : Kind) : Nat := x.name.size + (x.pool.length + wsum Const.w x.pool) + (x.fields.length + wsum Field.w x.fields) + (x.methods.length + wsum Code.w x.methods)
structure Prog where
  kinds : List Kind
  deriving DecidableEq
instance : Enc Prog where
  sz := 1
  cells o x := [tl o x.kinds]
  len _ _ := rfl
  fz o x := by simp
  own x := by simp
  pos := by decide
@[simp] theorem Prog.cells (o : Bool) (x : Prog) : Enc.cells o x = [tl o x.kinds] := rfl
@[simp] theorem Prog.sz : Enc.sz Prog = 1 := rfl
instance : Dec Prog where
  ty := .struct [.slice (.struct [.str, .int .i64, .slice (.struct [.int .i64, .int .i64, .str, .str]), .slice (.struct [.str, .str]), .slice (.struct [.str, .int .i64, .slice .str, .str, .int .i64, .slice (.struct [.int .i64, .int .i64])])])]
  tysz := rfl
  dec ts h := by
    have h := mem_struct.1 h
    obtain ⟨a0, r0, rfl, m0, h⟩ := memL_cons.1 h
    obtain rfl := memL_nil.1 h
    obtain ⟨x_kinds, rfl⟩ := dec_list2 (α := Kind) m0
    exact ⟨⟨x_kinds⟩, rfl⟩
def Prog.w (x : Prog) : Nat := (x.kinds.length + wsum Kind.w x.kinds)
structure Typ where
  kind : Int
  cls : Int
  deriving DecidableEq
instance : Enc Typ where
  sz := 2
  cells o x := [.v (.int .i64 x.kind), .v (.int .i64 x.cls)]
  len _ _ := rfl
  fz o x := by simp
  own x := by simp
  pos := by decide
@[simp] theorem Typ.cells (o : Bool) (x : Typ) : Enc.cells o x = [.v (.int .i64 x.kind), .v (.int .i64 x.cls)] := rfl
@[simp] theorem Typ.sz : Enc.sz Typ = 2 := rfl
instance : Dec Typ where
  ty := .struct [.int .i64, .int .i64]
  tysz := rfl
  dec ts h := by
    have h := mem_struct.1 h
    obtain ⟨a0, r0, rfl, m0, h⟩ := memL_cons.1 h
    obtain ⟨a1, r1, rfl, m1, h⟩ := memL_cons.1 h
    obtain rfl := memL_nil.1 h
    obtain ⟨x_kind, rfl, _⟩ := mem_int.1 m0
    obtain ⟨x_cls, rfl, _⟩ := mem_int.1 m1
    exact ⟨⟨x_kind, x_cls⟩, rfl⟩
structure Flow where
  locals : List Typ
  stack : List Typ
  held : Int
  deriving DecidableEq
instance : Enc Flow where
  sz := 3
  cells o x := [tl o x.locals, tl o x.stack, .v (.int .i64 x.held)]
  len _ _ := rfl
  fz o x := by simp
  own x := by simp
  pos := by decide
@[simp] theorem Flow.cells (o : Bool) (x : Flow) : Enc.cells o x = [tl o x.locals, tl o x.stack, .v (.int .i64 x.held)] := rfl
@[simp] theorem Flow.sz : Enc.sz Flow = 3 := rfl
instance : Dec Flow where
  ty := .struct [.slice (.struct [.int .i64, .int .i64]), .slice (.struct [.int .i64, .int .i64]), .int .i64]
  tysz := rfl
  dec ts h := by
    have h := mem_struct.1 h
    obtain ⟨a0, r0, rfl, m0, h⟩ := memL_cons.1 h
    obtain ⟨a1, r1, rfl, m1, h⟩ := memL_cons.1 h
    obtain ⟨a2, r2, rfl, m2, h⟩ := memL_cons.1 h
    obtain rfl := memL_nil.1 h
    obtain ⟨x_locals, rfl⟩ := dec_list2 (α := Typ) m0
    obtain ⟨x_stack, rfl⟩ := dec_list2 (α := Typ) m1
    obtain ⟨x_held, rfl, _⟩ := mem_int.1 m2
    exact ⟨⟨x_locals, x_stack, x_held⟩, rfl⟩
def Flow.w (x : Flow) : Nat := x.locals.length + x.stack.length

def inR (x lo hi : Int) : Bool := decide (lo ≤ x) && decide (x ≤ hi)
theorem spec_l1In_ok (x lo hi : Int) : ret Γ n_spec_l1In [ai x, ai lo, ai hi] = some [.o (.v (.bool (inR x lo hi)))] := by
  refine ret_of g_spec_l1In ?_
  by_cases h : lo ≤ x <;> simp [a_spec_l1In, c_spec_l1In, inR, h]
theorem impl_within_ok (x lo hi : Int) : ret Γ n_impl_within [ai x, ai lo, ai hi] = some [.o (.v (.bool (inR x lo hi)))] := by
  refine ret_of g_impl_within ?_
  by_cases h : lo ≤ x <;> simp [a_impl_within, c_impl_within, inR, h]
theorem impl_isId_ok (x : Int) : ret Γ n_impl_isId [ai x] = some [.o (.v (.bool (inR x 1 1000000)))] := by
  refine ret_of g_impl_isId ?_
  have h := impl_within_ok x 1 1000000
  simp at h
  simp [a_impl_isId, c_impl_isId, h]
def count (who : Int) : List Stamp → Int
  | [] => 0
  | x :: xs => if x.who = who then x.n else count who xs
theorem spec_Count_ok (xs : List Stamp) (who : Int) (hl : xs.length ≤ 1000000000) : ret Γ n_spec_Count [al xs, ai who] = some [.o (.v (.int .i64 (count who xs)))] := by
  refine ret_of g_spec_Count ?_
  simp [a_spec_Count, c_spec_Count]
  refine loop_ind (ι := Nat) (fun i => hd0 [(0, al xs), (1, ai who), (5, ai i)]) (fun i => xs.length - i) (fun i => i ≤ xs.length ∧ count who (xs.drop i) = count who xs) ?_ 0 ?_ _ ?_
  · intro i ⟨hi, hc⟩ ih
    by_cases hlt : i < xs.length
    · rw [List.drop_eq_getElem_cons hlt] at hc
      simp [hlt]
      split
      · rename_i hw; simp [hw, count] at hc ⊢; exact hc
      · rename_i hw
        refine ih (i + 1) (by omega) ⟨by omega, by simpa [count, hw] using hc⟩ _ ?_
        simp [wrap_nat (i := i) (by omega)]
    · obtain rfl : i = xs.length := by omega
      simp [count] at hc
      simp [hc]
  · simp
  · simp
theorem impl_Count_ok (xs : List Stamp) (who : Int) (hl : xs.length ≤ 1000000000) : ret Γ n_impl_Count [al xs, ai who] = some [.o (.v (.int .i64 (count who xs)))] := by
  refine ret_of g_impl_Count ?_
  simp [a_impl_Count, c_impl_Count]
  refine loop_ind (ι := Nat) (fun i => hd0 [(1, ai who), (7, al xs), (8, ai xs.length), (9, ai i)]) (fun i => xs.length - i) (fun i => i ≤ xs.length ∧ count who (xs.drop i) = count who xs) ?_ 0 ?_ _ ?_
  · intro i ⟨hi, hc⟩ ih
    by_cases hlt : i < xs.length
    · rw [List.drop_eq_getElem_cons hlt] at hc
      simp [hlt]
      split
      · rename_i hw; simp [hw, count] at hc ⊢; exact hc
      · rename_i hw
        refine ih (i + 1) (by omega) ⟨by omega, by simpa [count, hw] using hc⟩ _ ?_
        simp [wrap_nat (i := i) (by omega)]
    · obtain rfl : i = xs.length := by omega
      simp [count] at hc
      simp [hc]
  · simp
  · simp
/-- A clock, one stamp after another. -/
def stampOk (xs : List Stamp) (i : Nat) (x : Stamp) : Bool := inR x.who 1 1000000 && inR x.n 1 16777215 && (decide (i = 0) || decide ((xs.getD (i - 1) x).who < x.who))
def clockFrom (xs : List Stamp) : List Stamp → Nat → Bool
  | [], _ => true
  | x :: r, i => stampOk xs i x && clockFrom xs r (i + 1)
def clockOk (xs : List Stamp) : Bool := clockFrom xs xs 0
theorem spec_ClockOk_ok (xs : List Stamp) (hl : xs.length ≤ 1000000000) : ret Γ n_spec_ClockOk [al xs] = some [.o (.v (.bool (clockOk xs)))] := by
  refine ret_of g_spec_ClockOk ?_
  simp [a_spec_ClockOk, c_spec_ClockOk]
  refine loop_ind (ι := Nat) (fun i => hd0 [(0, al xs), (3, ai i)]) (fun i => xs.length - i) (fun i => i ≤ xs.length ∧ clockFrom xs (xs.drop i) i = clockOk xs) ?_ 0 ?_ _ ?_
  · intro i ⟨hi, hc⟩ ih
    by_cases hlt : i < xs.length
    · rw [List.drop_eq_getElem_cons hlt] at hc
      have k1 := spec_l1In_ok xs[i].who 1 1000000
      have k2 := spec_l1In_ok xs[i].n 1 16777215
      simp at k1 k2
      simp only [clockFrom] at hc
      have step : ∀ s, stampOk xs i xs[i] = true → canon 0 [0, 3] s = hd0 [(0, al xs), (3, ai (i + 1 : Nat))] → iwp Γ 0 _ _ s _ := fun s h hs => ih (i + 1) (by omega) ⟨by omega, by simpa only [h, Bool.true_and] using hc⟩ s hs
      have w1 := wrap_nat (i := i) (by omega)
      cases hA : inR xs[i].who 1 1000000 with
      | false =>
        simp [stampOk, hA] at hc
        simp [hlt, k1, hA, hc]
      | true =>
      cases hB : inR xs[i].n 1 16777215 with
      | false =>
        simp [stampOk, hA, hB] at hc
        simp [hlt, k1, hA, k2, hB, hc]
      | true =>
      by_cases h0 : i = 0
      · subst h0
        simp [hlt, k1, hA, k2, hB]
        refine step _ (by simp [stampOk, hA, hB]) ?_
        simp [w1]
      · have hlt2 : i - 1 < xs.length := by omega
        have w2 : IntKind.i64.wrap ((i : Int) - 1) = ((i - 1 : Nat) : Int) := by rw [wrap_id (by omega) (by omega)]; omega
        have hp : 0 < i := by omega
        by_cases hC : xs[i].who ≤ xs[i - 1].who
        · have hn : ¬ xs[i - 1].who < xs[i].who := by omega
          simp [stampOk, hA, hB, h0, hlt2, hn] at hc
          simp [hlt, k1, hA, k2, hB, hp, w2, hlt2, hC, hc]
        · have hn : xs[i - 1].who < xs[i].who := by omega
          simp [hlt, k1, hA, k2, hB, hp, w2, hlt2, hC]
          refine step _ (by simp [stampOk, hA, hB, hlt2, hn]) ?_
          simp [w1]
    · obtain rfl : i = xs.length := by omega
      simp [clockFrom] at hc
      simp [hc]
  · simp [clockOk]
  · simp
theorem impl_ClockOk_ok (xs : List Stamp) (hl : xs.length ≤ 1000000000) : ret Γ n_impl_ClockOk [al xs] = some [.o (.v (.bool (clockOk xs)))] := by
  refine ret_of g_impl_ClockOk ?_
  simp [a_impl_ClockOk, c_impl_ClockOk]
  refine loop_ind (ι := Nat) (fun i => hd0 [(0, al xs), (5, al xs), (6, ai xs.length), (7, ai i)]) (fun i => xs.length - i) (fun i => i ≤ xs.length ∧ clockFrom xs (xs.drop i) i = clockOk xs) ?_ 0 ?_ _ ?_
  · intro i ⟨hi, hc⟩ ih
    by_cases hlt : i < xs.length
    · rw [List.drop_eq_getElem_cons hlt] at hc
      have k1 := impl_isId_ok xs[i].who
      have k2 := impl_within_ok xs[i].n 1 16777215
      simp at k1 k2
      simp only [clockFrom] at hc
      have step : ∀ s, stampOk xs i xs[i] = true → canon 0 [0, 5, 6, 7] s = hd0 [(0, al xs), (5, al xs), (6, ai xs.length), (7, ai (i + 1 : Nat))] → iwp Γ 0 _ _ s _ := fun s h hs => ih (i + 1) (by omega) ⟨by omega, by simpa only [h, Bool.true_and] using hc⟩ s hs
      have w1 := wrap_nat (i := i) (by omega)
      cases hA : inR xs[i].who 1 1000000 with
      | false =>
        simp [stampOk, hA] at hc
        simp [hlt, k1, hA, hc]
      | true =>
      cases hB : inR xs[i].n 1 16777215 with
      | false =>
        simp [stampOk, hA, hB] at hc
        simp [hlt, k1, hA, k2, hB, hc]
      | true =>
      by_cases h0 : i = 0
      · subst h0
        simp [hlt, k1, hA, k2, hB]
        refine step _ (by simp [stampOk, hA, hB]) ?_
        simp [w1]
      · have hlt2 : i - 1 < xs.length := by omega
        have w2 : IntKind.i64.wrap ((i : Int) - 1) = ((i - 1 : Nat) : Int) := by rw [wrap_id (by omega) (by omega)]; omega
        have hp : 0 < i := by omega
        by_cases hC : xs[i].who ≤ xs[i - 1].who
        · have hn : ¬ xs[i - 1].who < xs[i].who := by omega
          simp [stampOk, hA, hB, h0, hlt2, hn] at hc
          simp [hlt, k1, hA, k2, hB, hp, w2, hlt2, hC, hc]
        · have hn : xs[i - 1].who < xs[i].who := by omega
          simp [hlt, k1, hA, k2, hB, hp, w2, hlt2, hC]
          refine step _ (by simp [stampOk, hA, hB, hlt2, hn]) ?_
          simp [w1]
    · obtain rfl : i = xs.length := by omega
      simp [clockFrom] at hc
      simp [hc]
  · simp [clockOk]
  · simp
def knowsAll (a : List Stamp) (b : List Stamp) : Bool := b.all fun s => decide (s.n ≤ count s.who a)
def knows (a b : List Stamp) : Bool := clockOk a && clockOk b && knowsAll a b
theorem impl_Knows_ok (xs ys : List Stamp) (hx : xs.length ≤ 1000000000) (hl : ys.length ≤ 1000000000) : ret Γ n_impl_Knows [al xs, al ys] = some [.o (.v (.bool (knows xs ys)))] := by
  refine ret_of g_impl_Knows ?_
  have k1 := impl_ClockOk_ok xs hx
  have k2 := impl_ClockOk_ok ys hl
  simp at k1 k2
  unfold knows
  cases hA : clockOk xs with
  | false => simp [a_impl_Knows, c_impl_Knows, k1, hA]
  | true =>
  cases hB : clockOk ys with
  | false => simp [a_impl_Knows, c_impl_Knows, k1, hA, k2, hB]
  | true =>
  simp [a_impl_Knows, c_impl_Knows, k1, hA, k2, hB]
  refine loop_ind (ι := Nat) (fun i => hd0 [(0, al xs), (15, al ys), (16, ai ys.length), (17, ai i)]) (fun i => ys.length - i) (fun i => i ≤ ys.length ∧ knowsAll xs (ys.drop i) = knowsAll xs ys) ?_ 0 ?_ _ ?_
  · intro i ⟨hi, hc⟩ ih
    by_cases hlt : i < ys.length
    · rw [List.drop_eq_getElem_cons hlt] at hc
      have k3 := impl_Count_ok xs ys[i].who hx
      simp at k3
      simp only [knowsAll, List.all_cons] at hc
      by_cases hC : ys[i].n ≤ count ys[i].who xs
      · have hn : ¬ count ys[i].who xs < ys[i].n := by omega
        simp [hlt, k3, hn]
        refine ih (i + 1) (by omega) ⟨by omega, by simpa [knowsAll, hC] using hc⟩ _ ?_
        simp [wrap_nat (i := i) (by omega)]
      · have hn : count ys[i].who xs < ys[i].n := by omega
        simp only [hC, decide_false, Bool.false_and] at hc
        simp [hlt, k3, hn, knowsAll, ← hc]
    · obtain rfl : i = ys.length := by omega
      have hk : knowsAll xs ys = true := by rw [← hc]; simp [knowsAll]
      simp [hk]
  · simp
  · simp
theorem spec_Knows_ok (xs ys : List Stamp) (hx : xs.length ≤ 1000000000) (hl : ys.length ≤ 1000000000) : ret Γ n_spec_Knows [al xs, al ys] = some [.o (.v (.bool (knows xs ys)))] := by
  refine ret_of g_spec_Knows ?_
  have k1 := spec_ClockOk_ok xs hx
  have k2 := spec_ClockOk_ok ys hl
  simp at k1 k2
  simp [a_spec_Knows, c_spec_Knows]
  refine loop_ind (ι := Nat) (fun i => hd0 [(0, al xs), (1, al ys), (5, ai i)]) (fun i => ys.length - i) (fun i => i ≤ ys.length ∧ knowsAll xs (ys.drop i) = knowsAll xs ys) ?_ 0 ?_ _ ?_
  · intro i ⟨hi, hc⟩ ih
    by_cases hlt : i < ys.length
    · rw [List.drop_eq_getElem_cons hlt] at hc
      have k3 := spec_Count_ok xs ys[i].who hx
      simp at k3
      simp only [knowsAll, List.all_cons] at hc
      by_cases hC : ys[i].n ≤ count ys[i].who xs
      · have hn : ¬ count ys[i].who xs < ys[i].n := by omega
        simp [hlt, k3, hn]
        refine ih (i + 1) (by omega) ⟨by omega, by simpa [knowsAll, hC] using hc⟩ _ ?_
        simp [wrap_nat (i := i) (by omega)]
      · have hn : count ys[i].who xs < ys[i].n := by omega
        simp only [hC, decide_false, Bool.false_and] at hc
        have hk : knowsAll xs ys = false := hc.symm
        simp [hlt, k3, hn, knows, hk]
    · obtain rfl : i = ys.length := by omega
      have hk : knowsAll xs ys = true := by rw [← hc]; simp [knowsAll]
      cases hA : clockOk xs <;> cases hB : clockOk ys <;> simp [k1, hA, k2, hB, knows, hk]
  · simp
  · simp
theorem laws_FnExactKnows_ok (xs ys : List Stamp) (h : sml xs) (h' : sml ys) (hl : xs.length + ys.length ≤ 1048576) : ret Γ n_laws_FnExactKnows [al xs, al ys] = some [.o (.v (.bool true))] := by
  refine ret_of g_laws_FnExactKnows ?_
  have hl1 := sml_len h
  have hl2 := sml_len h'
  have h1 := laws_szStampS_ok xs 1048576 h (by omega)
  have h1' := laws_szStampS_ok ys (1048576 - xs.length) h' (by omega)
  have h2 := laws_toStampS_ok xs h
  have h2' := laws_toStampS_ok ys h'
  have h3 := spec_Knows_ok xs ys hl1 hl2
  have h4 := impl_Knows_ok xs ys hl1 hl2
  have h5 := laws_eqStampS_ok xs xs h
  have h5' := laws_eqStampS_ok ys ys h'
  simp at h1 h1' h2 h2' h3 h4 h5 h5'
  rw [if_neg (by omega)] at h1 h1'
  have h6 : ¬ (1048576 : Int) - xs.length < 0 := by omega
  have h7 : ¬ (1048576 : Int) - xs.length - ys.length < 0 := by omega
  simp [a_laws_FnExactKnows, c_laws_FnExactKnows, h1, h1', h2, h2', h3, h4, h5, h5', h6, h7]
theorem laws_FnExactKnows_law : LawTrue Γ n_laws_FnExactKnows [.slice (.struct [.int .i64, .int .i64]), .slice (.struct [.int .i64, .int .i64])] 1048576 := by
  intro args h hw
  obtain ⟨_, _, rfl, h0, h⟩ := args_cons h
  obtain ⟨_, _, rfl, h1, h⟩ := args_cons h
  obtain rfl := args_nil h
  obtain ⟨xs, rfl, l0⟩ := arg_list (α := Stamp) h0
  obtain ⟨ys, rfl, l1⟩ := arg_list (α := Stamp) h1
  simp only [svsWt] at hw
  have := wt_len false xs
  have := wt_len false ys
  exact law_of_ret (laws_FnExactKnows_ok xs ys (by unfold sml; omega) (by unfold sml; omega) (by omega))


end AM
