/- What each function of FnExactTick comes to. -/
import Derived.Test.YtokgcleggkmmoaaLExactTickC
set_option linter.unusedVariables false
set_option linter.unusedSimpArgs false
namespace AM
open Go
set_option maxRecDepth 100000
instance : Enc ByteArray where
  sz := 1
  cells _ s := [.v (.string s)]
  len _ _ := rfl
  fz _ _ := rfl
  own _ := rfl
  pos := by decide
@[simp] theorem bytes_cells (o : Bool) (s : ByteArray) : Enc.cells o s = [.v (.string s)] := rfl
@[simp] theorem bytes_sz : Enc.sz ByteArray = 1 := rfl
instance : Dec ByteArray where
  ty := .str
  tysz := rfl
  dec ts h := by
    obtain ⟨s, rfl⟩ := mem_str.1 h
    exact ⟨s, rfl⟩

structure Stamp where
  who : Int
  n : Int
  deriving DecidableEq
instance : Enc Stamp where
  sz := 2
  cells o x := [.v (.int .i64 x.who), .v (.int .i64 x.n)]
  len _ _ := rfl
  fz o x := by simp
  own x := by simp
  pos := by decide
@[simp] theorem Stamp.cells (o : Bool) (x : Stamp) : Enc.cells o x = [.v (.int .i64 x.who), .v (.int .i64 x.n)] := rfl
@[simp] theorem Stamp.sz : Enc.sz Stamp = 2 := rfl
instance : Dec Stamp where
  ty := .struct [.int .i64, .int .i64]
  tysz := rfl
  dec ts h := by
    have h := mem_struct.1 h
    obtain ⟨a0, r0, rfl, m0, h⟩ := memL_cons.1 h
    obtain ⟨a1, r1, rfl, m1, h⟩ := memL_cons.1 h
    obtain rfl := memL_nil.1 h
    obtain ⟨x_who, rfl, _⟩ := mem_int.1 m0
    obtain ⟨x_n, rfl, _⟩ := mem_int.1 m1
    exact ⟨⟨x_who, x_n⟩, rfl⟩
theorem laws_toStamp_ok (x : Stamp) (h : sm x) : ret Γ n_laws_toStamp [ag x] = some [.a (Enc.cells true x)] := by
  obtain ⟨x_who, x_n⟩ := x
  refine ret_of g_laws_toStamp ?_
  simp [a_laws_toStamp, c_laws_toStamp]
theorem laws_eqStamp_ok (x y : Stamp) (h : sm x) : ret Γ n_laws_eqStamp [ag x, ag y] = some [.o (.v (.bool (decide (x = y))))] := by
  obtain ⟨x_who, x_n⟩ := x
  obtain ⟨y_who, y_n⟩ := y
  refine ret_of g_laws_eqStamp ?_
  simp [a_laws_eqStamp, c_laws_eqStamp]
  by_cases h0 : x_who = y_who
  rotate_left
  · simp [h0]
  by_cases h1 : x_n = y_n
  rotate_left
  · simp [h0, h1]
  simp [h0, h1]
theorem laws_toStampS_ok (xs : List Stamp) (h : sml xs) : ret Γ n_laws_toStampS [al xs] = some [.o (tl true xs)] := tos_gen [.v (.int .i64 0), .v (.int .i64 0)] rfl g_laws_toStampS (fun _ => rfl) laws_toStamp_ok xs h (by decide)
theorem laws_eqStampS_ok (xs ys : List Stamp) (h : sml xs) : ret Γ n_laws_eqStampS [al xs, al ys] = some [.o (.v (.bool (decide (xs = ys))))] := eqS_gen g_laws_eqStampS laws_eqStamp_ok xs ys h
theorem laws_szStampS_ok (xs : List Stamp) (left : Int) (h : sml xs) (hl : 0 ≤ left ∧ left ≤ 1048576) : ret Γ n_laws_szStampS [al xs, ai left] = some [.o (.v (.int .i64 (if left < xs.length then -1 else left - xs.length)))] := sz0_gen g_laws_szStampS xs left h hl
structure Val where
  ref : Bool
  n : Int
  deriving DecidableEq
instance : Enc Val where
  sz := 2
  cells o x := [.v (.bool x.ref), .v (.int .i64 x.n)]
  len _ _ := rfl
  fz o x := by simp
  own x := by simp
  pos := by decide
@[simp] theorem Val.cells (o : Bool) (x : Val) : Enc.cells o x = [.v (.bool x.ref), .v (.int .i64 x.n)] := rfl
@[simp] theorem Val.sz : Enc.sz Val = 2 := rfl
instance : Dec Val where
  ty := .struct [.bool, .int .i64]
  tysz := rfl
  dec ts h := by
    have h := mem_struct.1 h
    obtain ⟨a0, r0, rfl, m0, h⟩ := memL_cons.1 h
    obtain ⟨a1, r1, rfl, m1, h⟩ := memL_cons.1 h
    obtain rfl := memL_nil.1 h
    obtain ⟨x_ref, rfl⟩ := mem_bool.1 m0
    obtain ⟨x_n, rfl, _⟩ := mem_int.1 m1
    exact ⟨⟨x_ref, x_n⟩, rfl⟩
structure Lock where
  id : Int
  who : Int
  count : Int
  deriving DecidableEq
instance : Enc Lock where
  sz := 3
  cells o x := [.v (.int .i64 x.id), .v (.int .i64 x.who), .v (.int .i64 x.count)]
  len _ _ := rfl
  fz o x := by simp
  own x := by simp
  pos := by decide
@[simp] theorem Lock.cells (o : Bool) (x : Lock) : Enc.cells o x = [.v (.int .i64 x.id), .v (.int .i64 x.who), .v (.int .i64 x.count)] := rfl
@[simp] theorem Lock.sz : Enc.sz Lock = 3 := rfl
instance : Dec Lock where
  ty := .struct [.int .i64, .int .i64, .int .i64]
  tysz := rfl
  dec ts h := by
    have h := mem_struct.1 h
    obtain ⟨a0, r0, rfl, m0, h⟩ := memL_cons.1 h
    obtain ⟨a1, r1, rfl, m1, h⟩ := memL_cons.1 h
    obtain ⟨a2, r2, rfl, m2, h⟩ := memL_cons.1 h
    obtain rfl := memL_nil.1 h
    obtain ⟨x_id, rfl, _⟩ := mem_int.1 m0
    obtain ⟨x_who, rfl, _⟩ := mem_int.1 m1
    obtain ⟨x_count, rfl, _⟩ := mem_int.1 m2
    exact ⟨⟨x_id, x_who, x_count⟩, rfl⟩
structure Object where
  id : Int
  cls : Int
  fields : List Val
  deriving DecidableEq
instance : Enc Object where
  sz := 3
  cells o x := [.v (.int .i64 x.id), .v (.int .i64 x.cls), tl o x.fields]
  len _ _ := rfl
  fz o x := by simp
  own x := by simp
  pos := by decide
@[simp] theorem Object.cells (o : Bool) (x : Object) : Enc.cells o x = [.v (.int .i64 x.id), .v (.int .i64 x.cls), tl o x.fields] := rfl
@[simp] theorem Object.sz : Enc.sz Object = 3 := rfl
instance : Dec Object where
  ty := .struct [.int .i64, .int .i64, .slice (.struct [.bool, .int .i64])]
  tysz := rfl
  dec ts h := by
    have h := mem_struct.1 h
    obtain ⟨a0, r0, rfl, m0, h⟩ := memL_cons.1 h
    obtain ⟨a1, r1, rfl, m1, h⟩ := memL_cons.1 h
    obtain ⟨a2, r2, rfl, m2, h⟩ := memL_cons.1 h
    obtain rfl := memL_nil.1 h
    obtain ⟨x_id, rfl, _⟩ := mem_int.1 m0
    obtain ⟨x_cls, rfl, _⟩ := mem_int.1 m1
    obtain ⟨x_fields, rfl⟩ := dec_list2 (α := Val) m2
    exact ⟨⟨x_id, x_cls, x_fields⟩, rfl⟩
def Object.w (x : Object) : Nat := x.fields.length
structure Memory where
  objects : List Object
  locks : List Lock
  deriving DecidableEq
instance : Enc Memory where
  sz := 2
  cells o x := [tl o x.objects, tl o x.locks]
  len _ _ := rfl
  fz o x := by simp
  own x := by simp
  pos := by decide
@[simp] theorem Memory.cells (o : Bool) (x : Memory) : Enc.cells o x = [tl o x.objects, tl o x.locks] := rfl
@[simp] theorem Memory.sz : Enc.sz Memory = 2 := rfl
instance : Dec Memory where
  ty := .struct [.slice (.struct [.int .i64, .int .i64, .slice (.struct [.bool, .int .i64])]), .slice (.struct [.int .i64, .int .i64, .int .i64])]
  tysz := rfl
  dec ts h := by
    have h := mem_struct.1 h
    obtain ⟨a0, r0, rfl, m0, h⟩ := memL_cons.1 h
    obtain ⟨a1, r1, rfl, m1, h⟩ := memL_cons.1 h
    obtain rfl := memL_nil.1 h
    obtain ⟨x_objects, rfl⟩ := dec_list2 (α := Object) m0
    obtain ⟨x_locks, rfl⟩ := dec_list2 (α := Lock) m1
    exact ⟨⟨x_objects, x_locks⟩, rfl⟩
def Memory.w (x : Memory) : Nat := (x.objects.length + wsum Object.w x.objects) + x.locks.length
structure Frame where
  kind : Int
  method : Int
  pc : Int
  locals : List Val
  stack : List Val
  deriving DecidableEq
instance : Enc Frame where
  sz := 5
  cells o x := [.v (.int .i64 x.kind), .v (.int .i64 x.method), .v (.int .i64 x.pc), tl o x.locals, tl o x.stack]
  len _ _ := rfl
  fz o x := by simp
  own x := by simp
  pos := by decide
@[simp] theorem Frame.cells (o : Bool) (x : Frame) : Enc.cells o x = [.v (.int .i64 x.kind), .v (.int .i64 x.method), .v (.int .i64 x.pc), tl o x.locals, tl o x.stack] := rfl
@[simp] theorem Frame.sz : Enc.sz Frame = 5 := rfl
instance : Dec Frame where
  ty := .struct [.int .i64, .int .i64, .int .i64, .slice (.struct [.bool, .int .i64]), .slice (.struct [.bool, .int .i64])]
  tysz := rfl
  dec ts h := by
    have h := mem_struct.1 h
    obtain ⟨a0, r0, rfl, m0, h⟩ := memL_cons.1 h
    obtain ⟨a1, r1, rfl, m1, h⟩ := memL_cons.1 h
    obtain ⟨a2, r2, rfl, m2, h⟩ := memL_cons.1 h
    obtain ⟨a3, r3, rfl, m3, h⟩ := memL_cons.1 h
    obtain ⟨a4, r4, rfl, m4, h⟩ := memL_cons.1 h
    obtain rfl := memL_nil.1 h
    obtain ⟨x_kind, rfl, _⟩ := mem_int.1 m0
    obtain ⟨x_method, rfl, _⟩ := mem_int.1 m1
    obtain ⟨x_pc, rfl, _⟩ := mem_int.1 m2
    obtain ⟨x_locals, rfl⟩ := dec_list2 (α := Val) m3
    obtain ⟨x_stack, rfl⟩ := dec_list2 (α := Val) m4
    exact ⟨⟨x_kind, x_method, x_pc, x_locals, x_stack⟩, rfl⟩
def Frame.w (x : Frame) : Nat := x.locals.length + x.stack.length
structure Thread where
  id : Int
  frames : List Frame
  state : Int
  made : Int
  deriving DecidableEq
instance : Enc Thread where
  sz := 4
  cells o x := [.v (.int .i64 x.id), tl o x.frames, .v (.int .i64 x.state), .v (.int .i64 x.made)]
  len _ _ := rfl
  fz o x := by simp
  own x := by simp
  pos := by decide
@[simp] theorem Thread.cells (o : Bool) (x : Thread) : Enc.cells o x = [.v (.int .i64 x.id), tl o x.frames, .v (.int .i64 x.state), .v (.int .i64 x.made)] := rfl
@[simp] theorem Thread.sz : Enc.sz Thread = 4 := rfl
instance : Dec Thread where
  ty := .struct [.int .i64, .slice (.struct [.int .i64, .int .i64, .int .i64, .slice (.struct [.bool, .int .i64]), .slice (.struct [.bool, .int .i64])]), .int .i64, .int .i64]
  tysz := rfl
  dec ts h := by
    have h := mem_struct.1 h
    obtain ⟨a0, r0, rfl, m0, h⟩ := memL_cons.1 h
    obtain ⟨a1, r1, rfl, m1, h⟩ := memL_cons.1 h
    obtain ⟨a2, r2, rfl, m2, h⟩ := memL_cons.1 h
    obtain ⟨a3, r3, rfl, m3, h⟩ := memL_cons.1 h
    obtain rfl := memL_nil.1 h
    obtain ⟨x_id, rfl, _⟩ := mem_int.1 m0
    obtain ⟨x_frames, rfl⟩ := dec_list2 (α := Frame) m1
    obtain ⟨x_state, rfl, _⟩ := mem_int.1 m2
    obtain ⟨x_made, rfl, _⟩ := mem_int.1 m3
    exact ⟨⟨x_id, x_frames, x_state, x_made⟩, rfl⟩
def Thread.w (x : Thread) : Nat := (x.frames.length + wsum Frame.w x.frames)
structure Ins where
  op : Int
  n : Int
  deriving DecidableEq
instance : Enc Ins where
  sz := 2
  cells o x := [.v (.int .i64 x.op), .v (.int .i64 x.n)]
  len _ _ := rfl
  fz o x := by simp
  own x := by simp
  pos := by decide
@[simp] theorem Ins.cells (o : Bool) (x : Ins) : Enc.cells o x = [.v (.int .i64 x.op), .v (.int .i64 x.n)] := rfl
@[simp] theorem Ins.sz : Enc.sz Ins = 2 := rfl
instance : Dec Ins where
  ty := .struct [.int .i64, .int .i64]
  tysz := rfl
  dec ts h := by
    have h := mem_struct.1 h
    obtain ⟨a0, r0, rfl, m0, h⟩ := memL_cons.1 h
    obtain ⟨a1, r1, rfl, m1, h⟩ := memL_cons.1 h
    obtain rfl := memL_nil.1 h
    obtain ⟨x_op, rfl, _⟩ := mem_int.1 m0
    obtain ⟨x_n, rfl, _⟩ := mem_int.1 m1
    exact ⟨⟨x_op, x_n⟩, rfl⟩
structure Const where
  kind : Int
  n : Int
  a : ByteArray
  b : ByteArray
  deriving DecidableEq
instance : Enc Const where
  sz := 4
  cells o x := [.v (.int .i64 x.kind), .v (.int .i64 x.n), .v (.string x.a), .v (.string x.b)]
  len _ _ := rfl
  fz o x := by simp
  own x := by simp
  pos := by decide
@[simp] theorem Const.cells (o : Bool) (x : Const) : Enc.cells o x = [.v (.int .i64 x.kind), .v (.int .i64 x.n), .v (.string x.a), .v (.string x.b)] := rfl
@[simp] theorem Const.sz : Enc.sz Const = 4 := rfl
instance : Dec Const where
  ty := .struct [.int .i64, .int .i64, .str, .str]
  tysz := rfl
  dec ts h := by
    have h := mem_struct.1 h
    obtain ⟨a0, r0, rfl, m0, h⟩ := memL_cons.1 h
    obtain ⟨a1, r1, rfl, m1, h⟩ := memL_cons.1 h
    obtain ⟨a2, r2, rfl, m2, h⟩ := memL_cons.1 h
    obtain ⟨a3, r3, rfl, m3, h⟩ := memL_cons.1 h
    obtain rfl := memL_nil.1 h
    obtain ⟨x_kind, rfl, _⟩ := mem_int.1 m0
    obtain ⟨x_n, rfl, _⟩ := mem_int.1 m1
    obtain ⟨x_a, rfl⟩ := mem_str.1 m2
    obtain ⟨x_b, rfl⟩ := mem_str.1 m3
    exact ⟨⟨x_kind, x_n, x_a, x_b⟩, rfl⟩
def Const.w (x : Const) : Nat := x.a.size + x.b.size
structure Field where
  name : ByteArray
  type : ByteArray
  deriving DecidableEq
instance : Enc Field where
  sz := 2
  cells o x := [.v (.string x.name), .v (.string x.type)]
  len _ _ := rfl
  fz o x := by simp
  own x := by simp
  pos := by decide
@[simp] theorem Field.cells (o : Bool) (x : Field) : Enc.cells o x = [.v (.string x.name), .v (.string x.type)] := rfl
@[simp] theorem Field.sz : Enc.sz Field = 2 := rfl
instance : Dec Field where
  ty := .struct [.str, .str]
  tysz := rfl
  dec ts h := by
    have h := mem_struct.1 h
    obtain ⟨a0, r0, rfl, m0, h⟩ := memL_cons.1 h
    obtain ⟨a1, r1, rfl, m1, h⟩ := memL_cons.1 h
    obtain rfl := memL_nil.1 h
    obtain ⟨x_name, rfl⟩ := mem_str.1 m0
    obtain ⟨x_type, rfl⟩ := mem_str.1 m1
    exact ⟨⟨x_name, x_type⟩, rfl⟩
def Field.w (x : Field) : Nat := x.name.size + x.type.size
structure Code where
  name : ByteArray
  owner : Int
  params : List ByteArray
  result : ByteArray
  locals : Int
  list : List Ins
  deriving DecidableEq
instance : Enc Code where
  sz := 6
  cells o x := [.v (.string x.name), .v (.int .i64 x.owner), tl o x.params, .v (.string x.result), .v (.int .i64 x.locals), tl o x.list]
  len _ _ := rfl
  fz o x := by simp
  own x := by simp
  pos := by decide
@[simp] theorem Code.cells (o : Bool) (x : Code) : Enc.cells o x = [.v (.string x.name), .v (.int .i64 x.owner), tl o x.params, .v (.string x.result), .v (.int .i64 x.locals), tl o x.list] := rfl
@[simp] theorem Code.sz : Enc.sz Code = 6 := rfl
instance : Dec Code where
  ty := .struct [.str, .int .i64, .slice .str, .str, .int .i64, .slice (.struct [.int .i64, .int .i64])]
  tysz := rfl
  dec ts h := by
    have h := mem_struct.1 h
    obtain ⟨a0, r0, rfl, m0, h⟩ := memL_cons.1 h
    obtain ⟨a1, r1, rfl, m1, h⟩ := memL_cons.1 h
    obtain ⟨a2, r2, rfl, m2, h⟩ := memL_cons.1 h
    obtain ⟨a3, r3, rfl, m3, h⟩ := memL_cons.1 h
    obtain ⟨a4, r4, rfl, m4, h⟩ := memL_cons.1 h
    obtain ⟨a5, r5, rfl, m5, h⟩ := memL_cons.1 h
    obtain rfl := memL_nil.1 h
    obtain ⟨x_name, rfl⟩ := mem_str.1 m0
    obtain ⟨x_owner, rfl, _⟩ := mem_int.1 m1
    obtain ⟨x_params, rfl⟩ := dec_list2 (α := ByteArray) m2
    obtain ⟨x_result, rfl⟩ := mem_str.1 m3
    obtain ⟨x_locals, rfl, _⟩ := mem_int.1 m4
    obtain ⟨x_list, rfl⟩ := dec_list2 (α := Ins) m5
    exact ⟨⟨x_name, x_owner, x_params, x_result, x_locals, x_list⟩, rfl⟩
def Code.w (x : Code) : Nat := x.name.size + (x.params.length + wsum ByteArray.size x.params) + x.result.size + x.list.length
structure Kind where
  name : ByteArray
  super : Int
  pool : List Const
  fields : List Field
  methods : List Code
  deriving DecidableEq
instance : Enc Kind where
  sz := 5
  cells o x := [.v (.string x.name), .v (.int .i64 x.super), tl o x.pool, tl o x.fields, tl o x.methods]
  len _ _ := rfl
  fz o x := by simp
  own x := by simp
  pos := by decide
@[simp] theorem Kind.cells (o : Bool) (x : Kind) : Enc.cells o x = [.v (.string x.name), .v (.int .i64 x.super), tl o x.pool, tl o x.fields, tl o x.methods] := rfl
@[simp] theorem Kind.sz : Enc.sz Kind = 5 := rfl
instance : Dec Kind where
  ty := .struct [.str, .int .i64, .slice (.struct [.int .i64, .int .i64, .str, .str]), .slice (.struct [.str, .str]), .slice (.struct [.str, .int .i64, .slice .str, .str, .int .i64, .slice (.struct [.int .i64, .int .i64])])]
  tysz := rfl
  dec ts h := by
    have h := mem_struct.1 h
    obtain ⟨a0, r0, rfl, m0, h⟩ := memL_cons.1 h
    obtain ⟨a1, r1, rfl, m1, h⟩ := memL_cons.1 h
    obtain ⟨a2, r2, rfl, m2, h⟩ := memL_cons.1 h
    obtain ⟨a3, r3, rfl, m3, h⟩ := memL_cons.1 h
    obtain ⟨a4, r4, rfl, m4, h⟩ := memL_cons.1 h
    obtain rfl := memL_nil.1 h
    obtain ⟨x_name, rfl⟩ := mem_str.1 m0
    obtain ⟨x_super, rfl, _⟩ := mem_int.1 m1
    obtain ⟨x_pool, rfl⟩ := dec_list2 (α := Const) m2
    obtain ⟨x_fields, rfl⟩ := dec_list2 (α := Field) m3
    obtain ⟨x_methods, rfl⟩ := dec_list2 (α := Code) m4
    exact ⟨⟨x_name, x_super, x_pool, x_fields, x_methods⟩, rfl⟩
def Kind.w (x : Kind) : Nat := x.name.size + (x.pool.length + wsum Const.w x.pool) + (x.fields.length + wsum Field.w x.fields) + (x.methods.length + wsum Code.w x.methods)
structure Prog where
  kinds : List Kind
  deriving DecidableEq
instance : Enc Prog where
  sz := 1
  cells o x := [tl o x.kinds]
  len _ _ := rfl
  fz o x := by simp
  own x := by simp
  pos := by decide
@[simp] theorem Prog.cells (o : Bool) (x : Prog) : Enc.cells o x = [tl o x.kinds] := rfl
@[simp] theorem Prog.sz : Enc.sz Prog = 1 := rfl
instance : Dec Prog where
  ty := .struct [.slice (.struct [.str, .int .i64, .slice (.struct [.int .i64, .int .i64, .str, .str]), .slice (.struct [.str, .str]), .slice (.struct [.str, .int .i64, .slice .str, .str, .int .i64, .slice (.struct [.int .i64, .int .i64])])])]
  tysz := rfl
  dec ts h := by
    have h := mem_struct.1 h
    obtain ⟨a0, r0, rfl, m0, h⟩ := memL_cons.1 h
    obtain rfl := memL_nil.1 h
    obtain ⟨x_kinds, rfl⟩ := dec_list2 (α := Kind) m0
    exact ⟨⟨x_kinds⟩, rfl⟩
def Prog.w (x : Prog) : Nat := (x.kinds.length + wsum Kind.w x.kinds)
structure Typ where
  kind : Int
  cls : Int
  deriving DecidableEq
instance : Enc Typ where
  sz := 2
  cells o x := [.v (.int .i64 x.kind), .v (.int .i64 x.cls)]
  len _ _ := rfl
  fz o x := by simp
  own x := by simp
  pos := by decide
@[simp] theorem Typ.cells (o : Bool) (x : Typ) : Enc.cells o x = [.v (.int .i64 x.kind), .v (.int .i64 x.cls)] := rfl
@[simp] theorem Typ.sz : Enc.sz Typ = 2 := rfl
instance : Dec Typ where
  ty := .struct [.int .i64, .int .i64]
  tysz := rfl
  dec ts h := by
    have h := mem_struct.1 h
    obtain ⟨a0, r0, rfl, m0, h⟩ := memL_cons.1 h
    obtain ⟨a1, r1, rfl, m1, h⟩ := memL_cons.1 h
    obtain rfl := memL_nil.1 h
    obtain ⟨x_kind, rfl, _⟩ := mem_int.1 m0
    obtain ⟨x_cls, rfl, _⟩ := mem_int.1 m1
    exact ⟨⟨x_kind, x_cls⟩, rfl⟩
structure Flow where
  locals : List Typ
  stack : List Typ
  held : Int
  deriving DecidableEq
instance : Enc Flow where
  sz := 3
  cells o x := [tl o x.locals, tl o x.stack, .v (.int .i64 x.held)]
  len _ _ := rfl
  fz o x := by simp
  own x := by simp
  pos := by decide
@[simp] theorem Flow.cells (o : Bool) (x : Flow) : Enc.cells o x = [tl o x.locals, tl o x.stack, .v (.int .i64 x.held)] := rfl
@[simp] theorem Flow.sz : Enc.sz Flow = 3 := rfl
instance : Dec Flow where
  ty := .struct [.slice (.struct [.int .i64, .int .i64]), .slice (.struct [.int .i64, .int .i64]), .int .i64]
  tysz := rfl
  dec ts h := by
    have h := mem_struct.1 h
    obtain ⟨a0, r0, rfl, m0, h⟩ := memL_cons.1 h
    obtain ⟨a1, r1, rfl, m1, h⟩ := memL_cons.1 h
    obtain ⟨a2, r2, rfl, m2, h⟩ := memL_cons.1 h
    obtain rfl := memL_nil.1 h
    obtain ⟨x_locals, rfl⟩ := dec_list2 (α := Typ) m0
    obtain ⟨x_stack, rfl⟩ := dec_list2 (α := Typ) m1
    obtain ⟨x_held, rfl, _⟩ := mem_int.1 m2
    exact ⟨⟨x_locals, x_stack, x_held⟩, rfl⟩
def Flow.w (x : Flow) : Nat := x.locals.length + x.stack.length

def inR (x lo hi : Int) : Bool := decide (lo ≤ x) && decide (x ≤ hi)
theorem spec_l1In_ok (x lo hi : Int) : ret Γ n_spec_l1In [ai x, ai lo, ai hi] = some [.o (.v (.bool (inR x lo hi)))] := by
  refine ret_of g_spec_l1In ?_
  by_cases h : lo ≤ x <;> simp [a_spec_l1In, c_spec_l1In, inR, h]
theorem impl_within_ok (x lo hi : Int) : ret Γ n_impl_within [ai x, ai lo, ai hi] = some [.o (.v (.bool (inR x lo hi)))] := by
  refine ret_of g_impl_within ?_
  by_cases h : lo ≤ x <;> simp [a_impl_within, c_impl_within, inR, h]
theorem impl_isId_ok (x : Int) : ret Γ n_impl_isId [ai x] = some [.o (.v (.bool (inR x 1 1000000)))] := by
  refine ret_of g_impl_isId ?_
  have h := impl_within_ok x 1 1000000
  simp at h
  simp [a_impl_isId, c_impl_isId, h]
def count (who : Int) : List Stamp → Int
  | [] => 0
  | x :: xs => if x.who = who then x.n else count who xs
theorem spec_Count_ok (xs : List Stamp) (who : Int) (hl : xs.length ≤ 1000000000) : ret Γ n_spec_Count [al xs, ai who] = some [.o (.v (.int .i64 (count who xs)))] := by
  refine ret_of g_spec_Count ?_
  simp [a_spec_Count, c_spec_Count]
  refine loop_ind (ι := Nat) (fun i => hd0 [(0, al xs), (1, ai who), (5, ai i)]) (fun i => xs.length - i) (fun i => i ≤ xs.length ∧ count who (xs.drop i) = count who xs) ?_ 0 ?_ _ ?_
  · intro i ⟨hi, hc⟩ ih
    by_cases hlt : i < xs.length
    · rw [List.drop_eq_getElem_cons hlt] at hc
      simp [hlt]
      split
      · rename_i hw; simp [hw, count] at hc ⊢; exact hc
      · rename_i hw
        refine ih (i + 1) (by omega) ⟨by omega, by simpa [count, hw] using hc⟩ _ ?_
        simp [wrap_nat (i := i) (by omega)]
    · obtain rfl : i = xs.length := by omega
      simp [count] at hc
      simp [hc]
  · simp
  · simp
theorem impl_Count_ok (xs : List Stamp) (who : Int) (hl : xs.length ≤ 1000000000) : ret Γ n_impl_Count [al xs, ai who] = some [.o (.v (.int .i64 (count who xs)))] := by
  refine ret_of g_impl_Count ?_
  simp [a_impl_Count, c_impl_Count]
  refine loop_ind (ι := Nat) (fun i => hd0 [(1, ai who), (7, al xs), (8, ai xs.length), (9, ai i)]) (fun i => xs.length - i) (fun i => i ≤ xs.length ∧ count who (xs.drop i) = count who xs) ?_ 0 ?_ _ ?_
  · intro i ⟨hi, hc⟩ ih
    by_cases hlt : i < xs.length
    · rw [List.drop_eq_getElem_cons hlt] at hc
      simp [hlt]
      split
      · rename_i hw; simp [hw, count] at hc ⊢; exact hc
      · rename_i hw
        refine ih (i + 1) (by omega) ⟨by omega, by simpa [count, hw] using hc⟩ _ ?_
        simp [wrap_nat (i := i) (by omega)]
    · obtain rfl : i = xs.length := by omega
      simp [count] at hc
      simp [hc]
  · simp
  · simp
/-- A clock, one stamp after another. -/
def stampOk (xs : List Stamp) (i : Nat) (x : Stamp) : Bool := inR x.who 1 1000000 && inR x.n 1 16777215 && (decide (i = 0) || decide ((xs.getD (i - 1) x).who < x.who))
def clockFrom (xs : List Stamp) : List Stamp → Nat → Bool
  | [], _ => true
  | x :: r, i => stampOk xs i x && clockFrom xs r (i + 1)
def clockOk (xs : List Stamp) : Bool := clockFrom xs xs 0
theorem spec_ClockOk_ok (xs : List Stamp) (hl : xs.length ≤ 1000000000) : ret Γ n_spec_ClockOk [al xs] = some [.o (.v (.bool (clockOk xs)))] := by
  refine ret_of g_spec_ClockOk ?_
  simp [a_spec_ClockOk, c_spec_ClockOk]
  refine loop_ind (ι := Nat) (fun i => hd0 [(0, al xs), (3, ai i)]) (fun i => xs.length - i) (fun i => i ≤ xs.length ∧ clockFrom xs (xs.drop i) i = clockOk xs) ?_ 0 ?_ _ ?_
  · intro i ⟨hi, hc⟩ ih
    by_cases hlt : i < xs.length
    · rw [List.drop_eq_getElem_cons hlt] at hc
      have k1 := spec_l1In_ok xs[i].who 1 1000000
      have k2 := spec_l1In_ok xs[i].n 1 16777215
      simp at k1 k2
      simp only [clockFrom] at hc
      have step : ∀ s, stampOk xs i xs[i] = true → canon 0 [0, 3] s = hd0 [(0, al xs), (3, ai (i + 1 : Nat))] → iwp Γ 0 _ _ s _ := fun s h hs => ih (i + 1) (by omega) ⟨by omega, by simpa only [h, Bool.true_and] using hc⟩ s hs
      have w1 := wrap_nat (i := i) (by omega)
      cases hA : inR xs[i].who 1 1000000 with
      | false =>
        simp [stampOk, hA] at hc
        simp [hlt, k1, hA, hc]
      | true =>
      cases hB : inR xs[i].n 1 16777215 with
      | false =>
        simp [stampOk, hA, hB] at hc
        simp [hlt, k1, hA, k2, hB, hc]
      | true =>
      by_cases h0 : i = 0
      · subst h0
        simp [hlt, k1, hA, k2, hB]
        refine step _ (by simp [stampOk, hA, hB]) ?_
        simp [w1]
      · have hlt2 : i - 1 < xs.length := by omega
        have w2 : IntKind.i64.wrap ((i : Int) - 1) = ((i - 1 : Nat) : Int) := by rw [wrap_id (by omega) (by omega)]; omega
        have hp : 0 < i := by omega
        by_cases hC : xs[i].who ≤ xs[i - 1].who
        · have hn : ¬ xs[i - 1].who < xs[i].who := by omega
          simp [stampOk, hA, hB, h0, hlt2, hn] at hc
          simp [hlt, k1, hA, k2, hB, hp, w2, hlt2, hC, hc]
        · have hn : xs[i - 1].who < xs[i].who := by omega
          simp [hlt, k1, hA, k2, hB, hp, w2, hlt2, hC]
          refine step _ (by simp [stampOk, hA, hB, hlt2, hn]) ?_
          simp [w1]
    · obtain rfl : i = xs.length := by omega
      simp [clockFrom] at hc
      simp [hc]
  · simp [clockOk]
  · simp
theorem impl_ClockOk_ok (xs : List Stamp) (hl : xs.length ≤ 1000000000) : ret Γ n_impl_ClockOk [al xs] = some [.o (.v (.bool (clockOk xs)))] := by
  refine ret_of g_impl_ClockOk ?_
  simp [a_impl_ClockOk, c_impl_ClockOk]
  refine loop_ind (ι := Nat) (fun i => hd0 [(0, al xs), (5, al xs), (6, ai xs.length), (7, ai i)]) (fun i => xs.length - i) (fun i => i ≤ xs.length ∧ clockFrom xs (xs.drop i) i = clockOk xs) ?_ 0 ?_ _ ?_
  · intro i ⟨hi, hc⟩ ih
    by_cases hlt : i < xs.length
    · rw [List.drop_eq_getElem_cons hlt] at hc
      have k1 := impl_isId_ok xs[i].who
      have k2 := impl_within_ok xs[i].n 1 16777215
      simp at k1 k2
      simp only [clockFrom] at hc
      have step : ∀ s, stampOk xs i xs[i] = true → canon 0 [0, 5, 6, 7] s = hd0 [(0, al xs), (5, al xs), (6, ai xs.length), (7, ai (i + 1 : Nat))] → iwp Γ 0 _ _ s _ := fun s h hs => ih (i + 1) (by omega) ⟨by omega, by simpa only [h, Bool.true_and] using hc⟩ s hs
      have w1 := wrap_nat (i := i) (by omega)
      cases hA : inR xs[i].who 1 1000000 with
      | false =>
        simp [stampOk, hA] at hc
        simp [hlt, k1, hA, hc]
      | true =>
      cases hB : inR xs[i].n 1 16777215 with
      | false =>
        simp [stampOk, hA, hB] at hc
        simp [hlt, k1, hA, k2, hB, hc]
      | true =>
      by_cases h0 : i = 0
      · subst h0
        simp [hlt, k1, hA, k2, hB]
        refine step _ (by simp [stampOk, hA, hB]) ?_
        simp [w1]
      · have hlt2 : i - 1 < xs.length := by omega
        have w2 : IntKind.i64.wrap ((i : Int) - 1) = ((i - 1 : Nat) : Int) := by rw [wrap_id (by omega) (by omega)]; omega
        have hp : 0 < i := by omega
        by_cases hC : xs[i].who ≤ xs[i - 1].who
        · have hn : ¬ xs[i - 1].who < xs[i].who := by omega
          simp [stampOk, hA, hB, h0, hlt2, hn] at hc
          simp [hlt, k1, hA, k2, hB, hp, w2, hlt2, hC, hc]
        · have hn : xs[i - 1].who < xs[i].who := by omega
          simp [hlt, k1, hA, k2, hB, hp, w2, hlt2, hC]
          refine step _ (by simp [stampOk, hA, hB, hlt2, hn]) ?_
          simp [w1]
    · obtain rfl : i = xs.length := by omega
      simp [clockFrom] at hc
      simp [hc]
  · simp [clockOk]
  · simp
def knowsAll (a : List Stamp) (b : List Stamp) : Bool := b.all fun s => decide (s.n ≤ count s.who a)
def knows (a b : List Stamp) : Bool := clockOk a && clockOk b && knowsAll a b

theorem inR_nat {k : Int} {n : Nat} (h : inR k 0 ((n : Int) - 1) = true) : ∃ j : Nat, k = (j : Int) ∧ j < n := by
  simp [inR] at h
  exact ⟨k.toNat, by omega, by omega⟩
theorem fidx_nil {α : Type} (p : α → Bool) (i : Nat) : fidx p [] i = -1 := rfl
theorem fidx_cons {α : Type} (p : α → Bool) (x : α) (xs : List α) (i : Nat) : fidx p (x :: xs) i = if p x = true then (i : Int) else fidx p xs (i + 1) := rfl
def kindOf (p : List Kind) (s : ByteArray) : Int := fidx (fun k => decide (k.name = s)) p 0

@[simp] theorem veqL_nl : veqL [] [] [] = some true := rfl
@[simp] theorem veqL_int (k : IntKind) (a b : Int) (ks : List Nat) (xs ys : List SV) : veqL (1 :: ks) (.c (.v (.int k a)) :: xs) (.c (.v (.int k b)) :: ys) = (veqL ks xs ys).map (fun q => decide (a = b) && q) := by
  simp only [veqL, veq, if_true]
  cases veqL ks xs ys <;> by_cases h : a = b <;> simp [h]
@[simp] theorem veqL_bool (a b : Bool) (ks : List Nat) (xs ys : List SV) : veqL (0 :: ks) (.c (.v (.bool a)) :: xs) (.c (.v (.bool b)) :: ys) = (veqL ks xs ys).map (fun q => (a == b) && q) := by
  simp only [veqL, veq]
  cases veqL ks xs ys <;> simp
theorem bytes_beq (a b : ByteArray) : (a == b) = decide (a = b) := by
  obtain ⟨x⟩ := a
  obtain ⟨y⟩ := b
  have h : (ByteArray.mk x == ByteArray.mk y) = (x == y) := rfl
  rw [h]
  by_cases h : x = y <;> simp [h]
@[simp] theorem veqL_str (a b : ByteArray) (ks : List Nat) (xs ys : List SV) : veqL (2 :: ks) (.c (.v (.string a)) :: xs) (.c (.v (.string b)) :: ys) = (veqL ks xs ys).map (fun q => decide (a = b) && q) := by
  simp only [veqL, veq, bytes_beq]
  cases veqL ks xs ys <;> by_cases h : a = b <;> simp [h]
def typeOk (n : Nat) (k c : Int) : Bool := if k = 3 then inR c 0 ((n : Int) - 1) else inR k 0 2 && decide (c = 0)
/-- a is b, or has it above, in so many steps. -/
def subN (p : List Kind) (b : Int) : Nat → Int → Bool
  | 0, _ => false
  | n + 1, a => if inR a 0 ((p.length : Int) - 1) = true then (if a = b then true else match p[a.toNat]? with | some k => subN p b n k.super | none => false) else false
def sub (p : List Kind) (a b : Int) : Bool := inR b 0 ((p.length : Int) - 1) && subN p b 7 a
def typeOf (p : List Kind) (s : ByteArray) : Typ := if s = ⟨#[73]⟩ then ⟨1, 0⟩ else if kindOf p s < 0 then ⟨0, 0⟩ else ⟨3, kindOf p s⟩
def fits (p : List Kind) (ak ac bk bc : Int) : Bool := typeOk p.length ak ac && typeOk p.length bk bc && (decide (bk = 0) || (decide (ak = bk) && decide (ac = bc)) || (decide (bk = 3) && (decide (ak = 2) || (decide (ak = 3) && sub p ac bc))))

@[simp] theorem idxOf_id (a b : Id) (l : List Id) : List.idxOf a (b :: l) = if b = a then 0 else List.idxOf a l + 1 := by
  rw [List.idxOf_cons]
  by_cases h : b = a
  · subst h; simp
  · have e : (b == a) = false := by simpa using h
    simp [h, e]
theorem sm_Typ (x : Typ) : sm x := by
  simp only [sm, Typ.cells, wtL, T.wt, valWt]; omega
theorem sm_Kind {k : Kind} (h : sm k) : sml k.pool ∧ sml k.fields ∧ sml k.methods := by
  simp only [sm, Kind.cells, wtL, T.wt, valWt, tl] at h
  exact ⟨by simp only [sml]; omega, by simp only [sml]; omega, by simp only [sml]; omega⟩
theorem sm_Prog {p : Prog} (h : sm p) : sml p.kinds := by
  simp only [sm, Prog.cells, wtL, T.wt, valWt, tl] at h
  simp only [sml]; omega
theorem sm_Flow {p : Flow} (h : sm p) : sml p.locals ∧ sml p.stack := by
  simp only [sm, Flow.cells, wtL, T.wt, valWt, tl] at h
  exact ⟨by simp only [sml]; omega, by simp only [sml]; omega⟩
def fieldIx (p : List Kind) (k : Int) (s : ByteArray) : Int := if inR k 0 ((p.length : Int) - 1) = true then (match p[k.toNat]? with | some q => fidx (fun f => decide (f.name = s)) q.fields 0 | none => -1) else -1
def methodIx (p : List Kind) (k : Int) (s : ByteArray) : Int := if inR k 0 ((p.length : Int) - 1) = true then (match p[k.toNat]? with | some q => fidx (fun f => decide (f.name = s)) q.methods 0 | none => -1) else -1
def flowOk (p : List Kind) (f : Flow) : Bool := f.locals.all (fun t => typeOk p.length t.kind t.cls) && f.stack.all (fun t => typeOk p.length t.kind t.cls) && (decide (f.locals.length ≤ 6) && decide (f.stack.length ≤ 6) && inR f.held 0 4)
theorem all_drop {α : Type} (f : α → Bool) {xs : List α} {i : Nat} (h : i < xs.length) : (xs.drop i).all f = (f xs[i] && (xs.drop (i + 1)).all f) := by rw [List.drop_eq_getElem_cons h]; rfl

def joinN (p : List Kind) (b : Int) : Nat → Int → Typ
  | 0, _ => ⟨0, 0⟩
  | n + 1, k => if inR k 0 ((p.length : Int) - 1) = true then (if sub p b k = true then ⟨3, k⟩ else match p[k.toNat]? with | some q => joinN p b n q.super | none => ⟨0, 0⟩) else ⟨0, 0⟩
def join (p : List Kind) (a b : Typ) : Typ := if fits p a.kind a.cls b.kind b.cls = true then b else if fits p b.kind b.cls a.kind a.cls = true then a else if (typeOk p.length a.kind a.cls && typeOk p.length b.kind b.cls && decide (a.kind = 3) && decide (b.kind = 3)) = true then (match p[a.cls.toNat]? with | some q => joinN p b.cls 6 q.super | none => ⟨0, 0⟩) else ⟨0, 0⟩
theorem fits_sub {p : List Kind} {a b : Int} (h1 : typeOk p.length 3 a = true) (h2 : typeOk p.length 3 b = true) (h : fits p 3 b 3 a = false) : sub p b a = false := by
  simp [fits, h1, h2] at h
  exact h.2



def allN (f : Nat → Bool) : Nat → Nat → Bool
  | 0, _ => true
  | n + 1, i => f i && allN f n (i + 1)
theorem allN_0 (f : Nat → Bool) (i : Nat) : allN f 0 i = true := rfl
theorem allN_step (f : Nat → Bool) {i n : Nat} (h : i < n) : allN f (n - i) i = (f i && allN f (n - (i + 1)) (i + 1)) := by
  have e : n - i = (n - (i + 1)) + 1 := by omega
  rw [e]; rfl
def lk {α : Type} (xs : List α) (i : Nat) (f : α → Bool) : Bool := match xs[i]? with | some x => f x | none => false
theorem lk_get {α : Type} {xs : List α} {i : Nat} (f : α → Bool) (h : i < xs.length) : lk xs i f = f xs[i] := by simp [lk, h]
def valOk (v : Val) : Bool := if v.ref = true then inR v.n 0 1000000 else inR v.n (-2147483648) 2147483647
def valsOk (xs : List Val) : Bool := allN (fun i => lk xs i valOk) xs.length 0
def hasMethod (p : List Kind) (k m : Int) : Bool := inR k 0 ((p.length : Int) - 1) && (match p[k.toNat]? with | some q => inR m 0 ((q.methods.length : Int) - 1) | none => false)
theorem hasMethod_get {p : List Kind} {k m : Int} (h : hasMethod p k m = true) : ∃ j i : Nat, ∃ hj : j < p.length, k = (j : Int) ∧ m = (i : Int) ∧ i < p[j].methods.length := by
  unfold hasMethod at h
  rw [Bool.and_eq_true] at h
  obtain ⟨h1, h2⟩ := h
  obtain ⟨j, rfl, hj⟩ := inR_nat h1
  simp only [Int.toNat_natCast, List.getElem?_eq_getElem hj] at h2
  obtain ⟨i, rfl, hi⟩ := inR_nat h2
  exact ⟨j, i, hj, rfl, rfl, hi⟩
theorem sm_Code {c : Code} (h : sm c) : sml c.list ∧ sml c.params := by
  simp only [sm, Code.cells, wtL, T.wt, valWt, tl] at h
  exact ⟨by simp only [sml]; omega, by simp only [sml]; omega⟩
theorem sm_Frame {c : Frame} (h : sm c) : sml c.locals ∧ sml c.stack := by
  simp only [sm, Frame.cells, wtL, T.wt, valWt, tl] at h
  exact ⟨by simp only [sml]; omega, by simp only [sml]; omega⟩
theorem sm_Thread {c : Thread} (h : sm c) : sml c.frames := by
  simp only [sm, Thread.cells, wtL, T.wt, valWt, tl] at h
  simp only [sml]; omega
theorem sm_Object {c : Object} (h : sm c) : sml c.fields := by
  simp only [sm, Object.cells, wtL, T.wt, valWt, tl] at h
  simp only [sml]; omega
theorem sm_Memory {c : Memory} (h : sm c) : sml c.objects ∧ sml c.locks := by
  simp only [sm, Memory.cells, wtL, T.wt, valWt, tl] at h
  exact ⟨by simp only [sml]; omega, by simp only [sml]; omega⟩
def methodAt (p : List Kind) (k m : Int) : Option Code := match p[k.toNat]? with | some q => q.methods[m.toNat]? | none => none
def frameOk (p : List Kind) (f : Frame) : Bool := hasMethod p f.kind f.method && (match methodAt p f.kind f.method with | some c => decide (c.owner = f.kind) && inR f.pc 0 ((c.list.length : Int) - 1) && decide ((f.locals.length : Int) = c.locals) && decide ((f.stack.length : Int) ≤ 6) && valsOk f.locals && valsOk f.stack | none => false)
def threadOk (p : List Kind) (t : Thread) : Bool := allN (fun i => lk t.frames i (frameOk p)) t.frames.length 0 && (inR t.id 1 1000000 && decide ((t.frames.length : Int) ≤ 8) && (decide (0 < t.frames.length) || !decide (t.state = 0)) && inR t.state 0 5 && inR t.made 0 15)

def objAt (os : List Object) (id : Int) : Int := fidx (fun o => decide (o.id = id)) os 0
def readAt (os : List Object) (id k : Int) : Val × Bool := if objAt os id < 0 then (⟨false, 0⟩, false) else match os[(objAt os id).toNat]? with | some o => (if inR k 0 ((o.fields.length : Int) - 1) = true then (match o.fields[k.toNat]? with | some v => (v, true) | none => (⟨false, 0⟩, false)) else (⟨false, 0⟩, false)) | none => (⟨false, 0⟩, false)
theorem objAt_range (os : List Object) (id : Int) : objAt os id = -1 ∨ ∃ j : Nat, j < os.length ∧ objAt os id = (j : Int) := by
  rcases fidx_range (fun o : Object => decide (o.id = id)) os 0 with h | ⟨j, h, e, _⟩
  · exact .inl h
  · exact .inr ⟨j, h, by unfold objAt; rw [e]; simp⟩
def typedAt (vs : List Val) (fs : List Field) (i : Nat) : Bool := match vs[i]?, fs[i]? with | some v, some f => v.ref == !decide (f.type = ⟨#[73]⟩) | _, _ => false
theorem typedAt_get {vs : List Val} {fs : List Field} {i : Nat} (h : i < vs.length) (h2 : i < fs.length) : typedAt vs fs i = (vs[i].ref == !decide (fs[i].type = ⟨#[73]⟩)) := by simp [typedAt, h, h2]
def valuesOk (p : List Kind) (k : Int) (vs : List Val) : Bool := inR k 0 ((p.length : Int) - 1) && (match p[k.toNat]? with | some q => decide (vs.length = q.fields.length) && (valsOk vs && allN (typedAt vs q.fields) vs.length 0) | none => false)
theorem allN_and (f g : Nat → Bool) : ∀ n i, allN (fun i => f i && g i) n i = (allN f n i && allN g n i)
  | 0, _ => rfl
  | n + 1, i => by
    simp only [allN, allN_and f g n (i + 1)]
    cases f i <;> cases g i <;> simp
def objOk (p : List Kind) (o : Object) : Bool := inR o.id 1 1000000 && valuesOk p o.cls o.fields

def upAt {α : Type} (g : α → Int) (xs : List α) (i : Nat) : Bool := if 0 < i then (match xs[i - 1]?, xs[i]? with | some a, some b => decide (g a < g b) | _, _ => false) else true
theorem upAt_pos {α : Type} (g : α → Int) {xs : List α} {i : Nat} (h : 0 < i) (h1 : i - 1 < xs.length) (h2 : i < xs.length) : upAt g xs i = decide (g xs[i - 1] < g xs[i]) := by simp [upAt, h, h1, h2]
theorem upAt_zero {α : Type} (g : α → Int) (xs : List α) {i : Nat} (h : ¬ 0 < i) : upAt g xs i = true := by simp [upAt, h]
theorem sm_Val (x : Val) : sm x := by
  simp only [sm, Val.cells, wtL, T.wt, valWt]; omega
def lockOk (os : List Object) (l : Lock) : Bool := !decide (objAt os l.id < 0) && inR l.who 1 1000000 && inR l.count 1 1000
def memOk (p : List Kind) (os : List Object) (ls : List Lock) : Bool := allN (fun i => lk os i (objOk p) && upAt (fun o => o.id) os i) os.length 0 && allN (fun i => lk ls i (lockOk os) && upAt (fun o => o.id) ls i) ls.length 0


theorem wsum_wt {α : Type} [Enc α] (c : α → Nat) (h : ∀ x, c x ≤ 9 * wtL (Enc.cells false x)) : ∀ xs : List α, wsum c xs ≤ 9 * wtLL (xs.map (Enc.cells false))
  | [] => by simp [wsum, wtLL]
  | x :: xs => by
    have := wsum_wt c h xs
    have := h x
    simp only [wsum, List.map_cons, List.sum_cons, wtLL] at *
    omega
def Stamp.mc (_ : Stamp) : Nat := 2
def Stamp.mk_ (k : Int) (_ : Stamp) : Stamp := ⟨k, k + 1⟩
theorem Stamp.mc_le (x : Stamp) : Stamp.mc x ≤ 9 * wtL (Enc.cells false x) := by
  simp only [Stamp.mc, Stamp.cells, wtL, T.wt, valWt, tl]
  omega
def Val.mc (_ : Val) : Nat := 2
def Val.mk_ (k : Int) (_ : Val) : Val := ⟨decide (Int.tmod (k) 3 = 0), k + 1⟩
theorem Val.mc_le (x : Val) : Val.mc x ≤ 9 * wtL (Enc.cells false x) := by
  simp only [Val.mc, Val.cells, wtL, T.wt, valWt, tl]
  omega
def Lock.mc (_ : Lock) : Nat := 3
def Lock.mk_ (k : Int) (_ : Lock) : Lock := ⟨k, k + 1, k + 2⟩
theorem Lock.mc_le (x : Lock) : Lock.mc x ≤ 9 * wtL (Enc.cells false x) := by
  simp only [Lock.mc, Lock.cells, wtL, T.wt, valWt, tl]
  omega
def Frame.mc (x : Frame) : Nat := 3 + wsum Val.mc x.locals + wsum Val.mc x.stack
def Frame.mk_ (k : Int) (x : Frame) : Frame := ⟨k, k + 1, k + 2, marks Val.mk_ Val.mc (k + 3) x.locals, marks Val.mk_ Val.mc (k + 3 + (wsum Val.mc x.locals : Nat)) x.stack⟩
theorem Frame.mc_le (x : Frame) : Frame.mc x ≤ 9 * wtL (Enc.cells false x) := by
  simp only [Frame.mc, Frame.cells, wtL, T.wt, valWt, tl]
  have := wsum_wt Val.mc Val.mc_le x.locals
  have := wsum_wt Val.mc Val.mc_le x.stack
  omega
def Object.mc (x : Object) : Nat := 2 + wsum Val.mc x.fields
def Object.mk_ (k : Int) (x : Object) : Object := ⟨k, k + 1, marks Val.mk_ Val.mc (k + 2) x.fields⟩
theorem Object.mc_le (x : Object) : Object.mc x ≤ 9 * wtL (Enc.cells false x) := by
  simp only [Object.mc, Object.cells, wtL, T.wt, valWt, tl]
  have := wsum_wt Val.mc Val.mc_le x.fields
  omega
def Typ.mc (_ : Typ) : Nat := 2
def Typ.mk_ (k : Int) (_ : Typ) : Typ := ⟨k, k + 1⟩
theorem Typ.mc_le (x : Typ) : Typ.mc x ≤ 9 * wtL (Enc.cells false x) := by
  simp only [Typ.mc, Typ.cells, wtL, T.wt, valWt, tl]
  omega
set_option maxHeartbeats 2000000 in
theorem laws_markStampS_ok (xs : List Stamp) (k : Int) (hk : 0 ≤ k ∧ k + (wsum Stamp.mc xs : Nat) ≤ 4000000000000000000) (h : sml xs) : lret Γ n_laws_markStampS [.r (0, 0) [] 2 0 xs.length, ai k] (hnew (fun _ => none) (0, 0) (tl true xs)) [.o (.v (.int .i64 (k + (wsum Stamp.mc xs : Nat))))] [some (tl true (marks Stamp.mk_ Stamp.mc k xs))] := by
  refine lret_of g_laws_markStampS ?_
  have hM := marks_len Stamp.mk_ Stamp.mc k xs
  have hl := sml_len h
  simp [a_laws_markStampS, c_laws_markStampS]
  refine loop_ind (ι := Nat) (fun i => hdm [(0, .r (0, 0) [] 2 0 xs.length), (1, ai (k + (wsum Stamp.mc (xs.take i) : Nat))), (5, ai i)] (tl true (mfill (marks Stamp.mk_ Stamp.mc k xs) xs i))) (fun i => xs.length - i) (fun i => i ≤ xs.length) ?_ 0 (Nat.zero_le _) _ ?_
  · intro i hi ih
    by_cases hlt : i < xs.length
    · have hg := mfill_get hM hlt
      have hw := wsum_take Stamp.mc xs hlt
      have hle := wsum_le Stamp.mc xs (i + 1)
      have hsx := sml_get h hlt
      generalize hQ : k + (wsum Stamp.mc (xs.take i) : Nat) = q
      have hq : 0 ≤ q ∧ q + (Stamp.mc xs[i] : Nat) ≤ 4000000000000000000 := by omega
      have hq2 : k + (wsum Stamp.mc (xs.take (i + 1)) : Nat) = q + (Stamp.mc xs[i] : Nat) := by omega
      have hset : ((mfill (marks Stamp.mk_ Stamp.mc k xs) xs i).map (Enc.cells true)).set i (Enc.cells true (Stamp.mk_ q xs[i])) = (mfill (marks Stamp.mk_ Stamp.mc k xs) xs (i + 1)).map (Enc.cells true) := by
        rw [← mfill_set hM hlt, List.map_set, marks_get Stamp.mk_ Stamp.mc xs k hlt, hQ]
      have hgs : ∀ r, (((mfill (marks Stamp.mk_ Stamp.mc k xs) xs i).map (Enc.cells true)).set i r)[i]? = some r := fun r => List.getElem?_set_self (by rw [List.length_map, mfill_len hM]; exact hlt)
      simp only [Stamp.mc] at hq hq2
      simp [Stamp.mk_] at hset
      have w1 : IntKind.i64.wrap (q + 1) = q + 1 := by rw [wrap_id (by omega) (by omega)] <;> omega
      have w2 : IntKind.i64.wrap (q + 1 + 1) = q + 2 := by rw [wrap_id (by omega) (by omega)] <;> omega
      have hq3 : k + (wsum Stamp.mc (xs.take (i + 1)) : Nat) = q + 2 := by omega
      simp [hlt, hg, hgs, w1, w2]
      refine ih (i + 1) (by omega) (by omega) _ ?_
      simp [wrap_nat (i := i) (by omega), hq3, hset]
      refine ch_ext fun j hj => ?_
      by_cases h0 : j = 0 <;> simp [lentOf, hj, lent1, h0]
    · obtain rfl : i = xs.length := by omega
      simp [mfill_all hM]
  · simp [mfill_0, wsum]
    refine ch_ext fun j hj => ?_
    by_cases h0 : j = 0 <;> simp [lentOf, hj, lent1, h0, hnew, CAN]
set_option maxHeartbeats 2000000 in
theorem laws_heldStampS_ok (xs : List Stamp) (k : Int) (hk : 0 ≤ k ∧ k + (wsum Stamp.mc xs : Nat) ≤ 4000000000000000000) (h : sml xs) : ret Γ n_laws_heldStampS [al (marks Stamp.mk_ Stamp.mc k xs), ai k] = some [.o (.v (.int .i64 (k + (wsum Stamp.mc xs : Nat))))] := by
  refine ret_of g_laws_heldStampS ?_
  have hM := marks_len Stamp.mk_ Stamp.mc k xs
  have hl := sml_len h
  simp [a_laws_heldStampS, c_laws_heldStampS]
  refine loop_ind (ι := Nat) (fun i => hd0 [(0, al (marks Stamp.mk_ Stamp.mc k xs)), (1, ai (k + (wsum Stamp.mc (xs.take i) : Nat))), (5, ai i)]) (fun i => xs.length - i) (fun i => i ≤ xs.length) ?_ 0 (Nat.zero_le _) _ ?_
  · intro i hi ih
    by_cases hlt : i < xs.length
    · have hg : (marks Stamp.mk_ Stamp.mc k xs)[i]? = some (Stamp.mk_ (k + (wsum Stamp.mc (xs.take i) : Nat)) xs[i]) := by rw [List.getElem?_eq_getElem (by rw [hM]; exact hlt), marks_get Stamp.mk_ Stamp.mc xs k hlt]
      have hgE : ∀ p, (marks Stamp.mk_ Stamp.mc k xs)[i]'p = Stamp.mk_ (k + (wsum Stamp.mc (xs.take i) : Nat)) xs[i] := fun p => marks_get Stamp.mk_ Stamp.mc xs k hlt
      have hw := wsum_take Stamp.mc xs hlt
      have hle := wsum_le Stamp.mc xs (i + 1)
      have hsx := sml_get h hlt
      generalize hQ : k + (wsum Stamp.mc (xs.take i) : Nat) = q at hg hgE ⊢
      have hq : 0 ≤ q ∧ q + (Stamp.mc xs[i] : Nat) ≤ 4000000000000000000 := by omega
      have hq2 : k + (wsum Stamp.mc (xs.take (i + 1)) : Nat) = q + (Stamp.mc xs[i] : Nat) := by omega
      simp only [Stamp.mc] at hq hq2
      have w1 : IntKind.i64.wrap (q + 1) = q + 1 := by rw [wrap_id (by omega) (by omega)] <;> omega
      have w2 : IntKind.i64.wrap (q + 1 + 1) = q + 2 := by rw [wrap_id (by omega) (by omega)] <;> omega
      have hq3 : k + (wsum Stamp.mc (xs.take (i + 1)) : Nat) = q + 2 := by omega
      simp [hlt, hM, hg, hgE, Stamp.mk_, w1, w2]
      refine ih (i + 1) (by omega) (by omega) _ ?_
      simp [wrap_nat (i := i) (by omega), hq3]
    · obtain rfl : i = xs.length := by omega
      simp [hM]
  · simp [wsum]

def merge : List Stamp → List Stamp → List Stamp
  | [], bs => bs
  | a :: as, [] => a :: as
  | a :: as, b :: bs => if a.who < b.who then a :: merge as (b :: bs) else if b.who < a.who then b :: merge (a :: as) bs else ⟨a.who, if b.n > a.n then b.n else a.n⟩ :: merge as bs
termination_by as bs => as.length + bs.length
theorem merge_nil (bs : List Stamp) : merge [] bs = bs := by simp [merge]
theorem merge_nil2 (as : List Stamp) : merge as [] = as := by cases as <;> simp [merge]
theorem merge_cons (a b : Stamp) (as bs : List Stamp) : merge (a :: as) (b :: bs) = if a.who < b.who then a :: merge as (b :: bs) else if b.who < a.who then b :: merge (a :: as) bs else ⟨a.who, if b.n > a.n then b.n else a.n⟩ :: merge as bs := by rw [merge]
theorem spec_l1Max_ok (a b : Int) : ret Γ n_spec_l1Max [ai a, ai b] = some [.o (.v (.int .i64 (if b > a then b else a)))] := by
  refine ret_of g_spec_l1Max ?_
  rcases Int.lt_trichotomy a b with h | h | h
  · have h2 : ¬ b < a := by omega
    simp [a_spec_l1Max, c_spec_l1Max, h, h2]
    try omega
  · subst h; simp [a_spec_l1Max, c_spec_l1Max]
  · have h2 : ¬ a < b := by omega
    simp [a_spec_l1Max, c_spec_l1Max, h, h2]
    try omega
set_option maxHeartbeats 2000000 in
theorem impl_joined_ok (a b : List Stamp) (ha : a.length ≤ 1000000000) (hb : b.length ≤ 1000000000) : ret Γ n_impl_joined [al a, al b] = some [.o (tl true (merge a b))] := by
  refine ret_of g_impl_joined ?_
  generalize hR : merge a b = R
  simp [a_impl_joined, c_impl_joined]
  refine loop_ind (ι := Nat × Nat × List Stamp) (fun x => hdl [(0, al a), (1, al b), (5, .r (0, 1000000) [] 2 0 x.2.2.length), (6, ai x.1), (7, ai x.2.1)] [tl true x.2.2]) (fun x => (a.length - x.1) + (b.length - x.2.1)) (fun x => x.1 ≤ a.length ∧ x.2.1 ≤ b.length ∧ x.2.2.length ≤ x.1 + x.2.1 ∧ x.2.2 ++ merge (a.drop x.1) (b.drop x.2.1) = R) ?_ (0, 0, []) ?_ _ ?_
  · rintro ⟨i, k, out⟩ ⟨hi, hk, ho, hc⟩ ih
    simp only at hi hk ho hc
    have hlim : (out.length + 1) * 3 ≤ 1099511627776 := by omega
    by_cases hi2 : i < a.length
    · by_cases hk2 : k < b.length
      · rw [List.drop_eq_getElem_cons hi2, List.drop_eq_getElem_cons hk2, merge_cons] at hc
        have hk3 : ¬ (k : Int) = b.length := by omega
        have hi3 : ¬ (i : Int) = a.length := by omega
        by_cases h1 : a[i].who < b[k].who
        · simp only [h1, if_true] at hc
          simp [hi2, hk2, hi3, hk3, h1, LIM, hlim]
          refine ih (i + 1, k, out ++ [a[i]]) (by simp only; omega) ⟨by simp only; omega, by simp only; omega, by simp only [List.length_append, List.length_singleton]; omega, by rw [← hc, List.drop_eq_getElem_cons hk2]; simp⟩ _ ?_
          simp [wrap_nat (i := i) (by omega)]
        simp only [h1, if_false] at hc
        by_cases h2 : b[k].who < a[i].who
        · simp only [h2, if_true] at hc
          simp [hi2, hk2, hi3, hk3, h1, h2, LIM, hlim]
          refine ih (i, k + 1, out ++ [b[k]]) (by simp only; omega) ⟨by simp only; omega, by simp only; omega, by simp only [List.length_append, List.length_singleton]; omega, by rw [← hc, List.drop_eq_getElem_cons hi2]; simp⟩ _ ?_
          simp [wrap_nat (i := k) (by omega)]
        simp only [h2, if_false] at hc
        simp [hi2, hk2, hi3, hk3, h1, h2, LIM, hlim]
        refine ih (i + 1, k + 1, out ++ [⟨a[i].who, if b[k].n > a[i].n then b[k].n else a[i].n⟩]) (by simp only; omega) ⟨by simp only; omega, by simp only; omega, by simp only [List.length_append, List.length_singleton]; omega, by rw [← hc]; simp⟩ _ ?_
        simp [wrap_nat (i := i) (by omega), wrap_nat (i := k) (by omega)]
      · obtain rfl : k = b.length := by omega
        rw [List.drop_length, merge_nil2, List.drop_eq_getElem_cons hi2] at hc
        simp [hi2, LIM, hlim]
        refine ih (i + 1, b.length, out ++ [a[i]]) (by simp only; omega) ⟨by simp only; omega, by simp only; omega, by simp only [List.length_append, List.length_singleton]; omega, by rw [← hc, List.drop_length, merge_nil2]; simp⟩ _ ?_
        simp [wrap_nat (i := i) (by omega)]
    · obtain rfl : i = a.length := by omega
      rw [List.drop_length, merge_nil] at hc
      by_cases hk2 : k < b.length
      · have hk3 : ¬ (k : Int) = b.length := by omega
        rw [List.drop_eq_getElem_cons hk2] at hc
        simp [hk2, hk3, LIM, hlim]
        refine ih (a.length, k + 1, out ++ [b[k]]) (by simp only; omega) ⟨by simp only; omega, by simp only; omega, by simp only [List.length_append, List.length_singleton]; omega, by rw [← hc, List.drop_length, merge_nil]; simp⟩ _ ?_
        simp [wrap_nat (i := k) (by omega)]
      · obtain rfl : k = b.length := by omega
        rw [List.drop_length, List.append_nil] at hc
        subst hc
        simp
  · exact ⟨Nat.zero_le _, Nat.zero_le _, Nat.zero_le _, hR⟩
  · simp
set_option maxHeartbeats 2000000 in
theorem spec_l17Join_ok (a b : List Stamp) (ha : a.length ≤ 1000000000) (hb : b.length ≤ 1000000000) : ret Γ n_spec_l17Join [al a, al b] = some [.o (tl true (merge a b))] := by
  refine ret_of g_spec_l17Join ?_
  have e1 := fun x y => spec_l1Max_ok x y
  simp at e1
  generalize hR : merge a b = R
  simp [a_spec_l17Join, c_spec_l17Join]
  refine loop_ind (ι := Nat × Nat × List Stamp) (fun x => hdl [(0, al a), (1, al b), (5, .r (0, 1000000) [] 2 0 x.2.2.length), (6, ai x.1), (7, ai x.2.1)] [tl true x.2.2]) (fun x => (a.length - x.1) + (b.length - x.2.1)) (fun x => x.1 ≤ a.length ∧ x.2.1 ≤ b.length ∧ x.2.2.length ≤ x.1 + x.2.1 ∧ x.2.2 ++ merge (a.drop x.1) (b.drop x.2.1) = R) ?_ (0, 0, []) ?_ _ ?_
  · rintro ⟨i, k, out⟩ ⟨hi, hk, ho, hc⟩ ih
    simp only at hi hk ho hc
    have hlim : (out.length + 1) * 3 ≤ 1099511627776 := by omega
    by_cases hi2 : i < a.length
    · by_cases hk2 : k < b.length
      · rw [List.drop_eq_getElem_cons hi2, List.drop_eq_getElem_cons hk2, merge_cons] at hc
        have hk3 : ¬ (k : Int) = b.length := by omega
        have hi3 : ¬ (i : Int) = a.length := by omega
        by_cases h1 : a[i].who < b[k].who
        · simp only [h1, if_true] at hc
          simp [hi2, hk2, hi3, hk3, h1, LIM, hlim, e1]
          refine ih (i + 1, k, out ++ [a[i]]) (by simp only; omega) ⟨by simp only; omega, by simp only; omega, by simp only [List.length_append, List.length_singleton]; omega, by rw [← hc, List.drop_eq_getElem_cons hk2]; simp⟩ _ ?_
          simp [wrap_nat (i := i) (by omega)]
        simp only [h1, if_false] at hc
        by_cases h2 : b[k].who < a[i].who
        · simp only [h2, if_true] at hc
          simp [hi2, hk2, hi3, hk3, h1, h2, LIM, hlim, e1]
          refine ih (i, k + 1, out ++ [b[k]]) (by simp only; omega) ⟨by simp only; omega, by simp only; omega, by simp only [List.length_append, List.length_singleton]; omega, by rw [← hc, List.drop_eq_getElem_cons hi2]; simp⟩ _ ?_
          simp [wrap_nat (i := k) (by omega)]
        simp only [h2, if_false] at hc
        simp [hi2, hk2, hi3, hk3, h1, h2, LIM, hlim, e1]
        refine ih (i + 1, k + 1, out ++ [⟨a[i].who, if b[k].n > a[i].n then b[k].n else a[i].n⟩]) (by simp only; omega) ⟨by simp only; omega, by simp only; omega, by simp only [List.length_append, List.length_singleton]; omega, by rw [← hc]; simp⟩ _ ?_
        simp [wrap_nat (i := i) (by omega), wrap_nat (i := k) (by omega)]
      · obtain rfl : k = b.length := by omega
        rw [List.drop_length, merge_nil2, List.drop_eq_getElem_cons hi2] at hc
        simp [hi2, LIM, hlim, e1]
        refine ih (i + 1, b.length, out ++ [a[i]]) (by simp only; omega) ⟨by simp only; omega, by simp only; omega, by simp only [List.length_append, List.length_singleton]; omega, by rw [← hc, List.drop_length, merge_nil2]; simp⟩ _ ?_
        simp [wrap_nat (i := i) (by omega)]
    · obtain rfl : i = a.length := by omega
      rw [List.drop_length, merge_nil] at hc
      by_cases hk2 : k < b.length
      · have hk3 : ¬ (k : Int) = b.length := by omega
        rw [List.drop_eq_getElem_cons hk2] at hc
        simp [hk2, hk3, LIM, hlim, e1]
        refine ih (a.length, k + 1, out ++ [b[k]]) (by simp only; omega) ⟨by simp only; omega, by simp only; omega, by simp only [List.length_append, List.length_singleton]; omega, by rw [← hc, List.drop_length, merge_nil]; simp⟩ _ ?_
        simp [wrap_nat (i := k) (by omega)]
      · obtain rfl : k = b.length := by omega
        rw [List.drop_length, List.append_nil] at hc
        subst hc
        simp
  · exact ⟨Nat.zero_le _, Nat.zero_le _, Nat.zero_le _, hR⟩
  · simp

def join2 (a b : List Stamp) : List Stamp := if (clockOk a && clockOk b) = true then merge a b else []
def tick (a : List Stamp) (who : Int) : List Stamp := if (clockOk a && inR who 1 1000000 && decide (count who a < 16777215)) = true then merge a [⟨who, IntKind.i64.wrap (count who a + 1)⟩] else a
theorem impl_copyStamps_ok (a : List Stamp) (ha : a.length ≤ 1000000000) : ret Γ n_impl_copyStamps [al a] = some [.o (tl true a)] := by
  refine ret_of g_impl_copyStamps ?_
  have hlim : a.length * 3 ≤ 1099511627776 := by omega
  simp [a_impl_copyStamps, c_impl_copyStamps, LIM, hlim]
theorem impl_Tick_ok (a : List Stamp) (who : Int) (ha : a.length ≤ 1000000000) : ret Γ n_impl_Tick [al a, ai who] = some [.o (tl true (tick a who))] := by
  refine ret_of g_impl_Tick ?_
  have e1 := impl_ClockOk_ok a ha
  have e2 := impl_Count_ok a who ha
  have e3 := impl_joined_ok a [⟨who, IntKind.i64.wrap (count who a + 1)⟩] ha (by simp)
  have e4 := impl_isId_ok who
  have e5 := impl_copyStamps_ok a ha
  simp at e1 e2 e3 e4 e5
  unfold tick
  cases h1 : clockOk a with
  | false => simp [a_impl_Tick, c_impl_Tick, e1, e2, h1, e5]
  | true =>
  cases h2 : inR who 1 1000000 with
  | false => simp [a_impl_Tick, c_impl_Tick, e1, e2, h1, e4, h2, e5]
  | true =>
  by_cases h3 : count who a < 16777215
  · have h4 : ¬ (16777215 : Int) ≤ count who a := by omega
    simp [a_impl_Tick, c_impl_Tick, e1, e2, h1, e4, h2, h3, h4, e3]
  · have h4 : (16777215 : Int) ≤ count who a := by omega
    simp [a_impl_Tick, c_impl_Tick, e1, e2, h1, e4, h2, h3, h4, e5]
theorem spec_Tick_ok (a : List Stamp) (who : Int) (ha : a.length ≤ 1000000000) : ret Γ n_spec_Tick [al a, ai who] = some [.o (tl true (tick a who))] := by
  refine ret_of g_spec_Tick ?_
  have e1 := spec_ClockOk_ok a ha
  have e2 := spec_Count_ok a who ha
  have e3 := spec_l17Join_ok a [⟨who, IntKind.i64.wrap (count who a + 1)⟩] ha (by simp)
  have e4 := spec_l1In_ok who 1 1000000
  have hlim : a.length * 3 ≤ 1099511627776 := by omega
  simp at e1 e2 e3 e4
  unfold tick
  cases h1 : clockOk a with
  | false => simp [a_spec_Tick, c_spec_Tick, e1, e2, h1, LIM, hlim]
  | true =>
  cases h2 : inR who 1 1000000 with
  | false => simp [a_spec_Tick, c_spec_Tick, e1, e2, h1, e4, h2, LIM, hlim]
  | true =>
  by_cases h3 : count who a < 16777215
  · have h4 : ¬ (16777215 : Int) ≤ count who a := by omega
    simp [a_spec_Tick, c_spec_Tick, e1, e2, h1, e4, h2, h3, h4, e3]
  · have h4 : (16777215 : Int) ≤ count who a := by omega
    simp [a_spec_Tick, c_spec_Tick, e1, e2, h1, e4, h2, h3, h4, LIM, hlim]

theorem stamp_wt : ∀ xs : List Stamp, wtLL (xs.map (Enc.cells false)) ≤ 10 * xs.length
  | [] => by simp [wtLL]
  | x :: xs => by
    have := stamp_wt xs
    simp only [List.map_cons, wtLL, Stamp.cells, wtL, T.wt, valWt, List.length_cons] at *
    omega
theorem stamp_sml {xs : List Stamp} (h : xs.length ≤ 50000000) : sml xs := by
  have := stamp_wt xs
  unfold sml
  omega
theorem merge_len : ∀ (n : Nat) (a b : List Stamp), a.length + b.length ≤ n → (merge a b).length ≤ a.length + b.length
  | _, [], b, _ => by rw [merge_nil]; simp
  | _, _ :: _, [], _ => by rw [merge_nil2]; simp
  | 0, _ :: _, _ :: _, h => by simp at h
  | n + 1, a :: as, b :: bs, h => by
    simp only [List.length_cons] at h
    rw [merge_cons]
    by_cases h1 : a.who < b.who
    · have := merge_len n as (b :: bs) (by simp only [List.length_cons]; omega)
      simp only [h1, if_true, List.length_cons] at *
      omega
    by_cases h2 : b.who < a.who
    · have := merge_len n (a :: as) bs (by simp only [List.length_cons]; omega)
      simp only [h1, h2, if_true, if_false, List.length_cons] at *
      omega
    have := merge_len n as bs (by omega)
    simp only [h1, h2, if_false, List.length_cons] at *
    omega
theorem join2_len (a b : List Stamp) : (join2 a b).length ≤ a.length + b.length := by
  unfold join2
  split
  · exact merge_len _ a b (Nat.le_refl _)
  · simp
theorem tick_len (a : List Stamp) (who : Int) : (tick a who).length ≤ a.length + 1 := by
  unfold tick
  split
  · exact merge_len _ a _ (Nat.le_refl _)
  · simp
theorem stamp_ms (xs : List Stamp) : wsum Stamp.mc xs = 2 * xs.length := by
  induction xs with
  | nil => rfl
  | cons x xs ih => simp only [wsum, List.map_cons, List.sum_cons, Stamp.mc, List.length_cons] at *; omega
set_option maxHeartbeats 4000000 in
theorem laws_FnExactTick_ok (a : List Stamp) (who : Int) (ha : a.length ≤ 2000000) : ret Γ n_laws_FnExactTick [al a, ai who] = some [.o (.v (.bool true))] := by
  have h_a : sml a := stamp_sml (by omega)
  have hl := tick_len a who
  have h_r : sml (tick a who) := stamp_sml (by omega)
  have sa := stamp_ms a
  have sr := stamp_ms (tick a who)
  have to_a := laws_toStampS_ok a h_a
  have eq_a := laws_eqStampS_ok a a h_a
  have eq_r := laws_eqStampS_ok (tick a who) (tick a who) h_r
  have e1 := impl_Tick_ok a who (by omega)
  have e2 := spec_Tick_ok a who (by omega)
  generalize tick a who = r at *
  obtain ⟨ca, ma, na⟩ := laws_markStampS_ok a 1 ⟨by omega, by omega⟩ h_a
  obtain ⟨cr, mr, nr⟩ := laws_markStampS_ok r 1 ⟨by omega, by omega⟩ h_r
  have hr := laws_heldStampS_ok r 1 ⟨by omega, by omega⟩ h_r
  replace na := na 0 (by simp)
  replace nr := nr 0 (by simp)
  have q1 : ¬ (1 : Int) + (wsum Stamp.mc a : Nat) < 0 := by omega
  have q2 : ¬ (1 : Int) + (wsum Stamp.mc r : Nat) < 0 := by omega
  have hm := marks_len Stamp.mk_ Stamp.mc 1 r
  have htk : List.take r.length (List.map (Enc.cells true) (marks Stamp.mk_ Stamp.mc 1 r)) = List.map (Enc.cells true) (marks Stamp.mk_ Stamp.mc 1 r) := by rw [← hm, take_map_len]
  refine ret_of g_laws_FnExactTick ?_
  simp at to_a eq_a eq_r e1 e2 ma mr na nr hr
  obtain ⟨W_a, wp_a, z_a⟩ : ∃ W : Int, 0 ≤ W ∧ ret Γ n_laws_szStampS [al a, ai ((1048576 : Int))] = some [.o (.v (.int .i64 (if (1048576 : Int) < W then -1 else (1048576 : Int) - W)))] := ⟨_, by omega, laws_szStampS_ok a ((1048576 : Int)) h_a (by omega)⟩
  simp at z_a
  by_cases c_a : (1048576 : Int) < W_a
  · simp only [c_a, if_true] at z_a
    simp [a_laws_FnExactTick, c_laws_FnExactTick, z_a]
  simp only [c_a, if_false] at z_a
  have q_a : ¬ (1048576 : Int) - W_a < 0 := by omega
  simp [a_laws_FnExactTick, c_laws_FnExactTick, z_a, q_a, to_a, eq_a, eq_r, e1, e2, ma, na, mr, nr, hr, q1, q2, hm, htk]
theorem laws_FnExactTick_law : LawTrue Γ n_laws_FnExactTick [.slice (.struct [.int .i64, .int .i64]), .int .i64] 1048576 := by
  intro args h hw
  obtain ⟨_, _, rfl, h0, h⟩ := args_cons h
  obtain ⟨_, _, rfl, h1, h⟩ := args_cons h
  obtain rfl := args_nil h
  obtain ⟨a, rfl, l0⟩ := arg_list (α := Stamp) h0
  obtain ⟨who, rfl, _⟩ := arg_int h1
  simp only [svsWt] at hw
  have := wt_len false a
  exact law_of_ret (laws_FnExactTick_ok a who (by omega))


end AM
