/- What each function of FnExactGive comes to. -/
import Derived.Test.YtokgcleggkmmoaaLExactGiveC
set_option linter.unusedVariables false
set_option linter.unusedSimpArgs false
namespace AM
open Go
set_option maxRecDepth 100000
instance : Enc ByteArray where
  sz := 1
  cells _ s := [.v (.string s)]
  len _ _ := rfl
  fz _ _ := rfl
  own _ := rfl
  pos := by decide
@[simp] theorem bytes_cells (o : Bool) (s : ByteArray) : Enc.cells o s = [.v (.string s)] := rfl
@[simp] theorem bytes_sz : Enc.sz ByteArray = 1 := rfl
instance : Dec ByteArray where
  ty := .str
  tysz := rfl
  dec ts h := by
    obtain ⟨s, rfl⟩ := mem_str.1 h
    exact ⟨s, rfl⟩

structure Stamp where
  who : Int
  n : Int
  deriving DecidableEq
instance : Enc Stamp where
  sz := 2
  cells o x := [.v (.int .i64 x.who), .v (.int .i64 x.n)]
  len _ _ := rfl
  fz o x := by simp
  own x := by simp
  pos := by decide
@[simp] theorem Stamp.cells (o : Bool) (x : Stamp) : Enc.cells o x = [.v (.int .i64 x.who), .v (.int .i64 x.n)] := rfl
@[simp] theorem Stamp.sz : Enc.sz Stamp = 2 := rfl
instance : Dec Stamp where
  ty := .struct [.int .i64, .int .i64]
  tysz := rfl
  dec ts h := by
    have h := mem_struct.1 h
    obtain ⟨a0, r0, rfl, m0, h⟩ := memL_cons.1 h
    obtain ⟨a1, r1, rfl, m1, h⟩ := memL_cons.1 h
    obtain rfl := memL_nil.1 h
    obtain ⟨x_who, rfl, _⟩ := mem_int.1 m0
    obtain ⟨x_n, rfl, _⟩ := mem_int.1 m1
    exact ⟨⟨x_who, x_n⟩, rfl⟩
structure Val where
  ref : Bool
  n : Int
  deriving DecidableEq
instance : Enc Val where
  sz := 2
  cells o x := [.v (.bool x.ref), .v (.int .i64 x.n)]
  len _ _ := rfl
  fz o x := by simp
  own x := by simp
  pos := by decide
@[simp] theorem Val.cells (o : Bool) (x : Val) : Enc.cells o x = [.v (.bool x.ref), .v (.int .i64 x.n)] := rfl
@[simp] theorem Val.sz : Enc.sz Val = 2 := rfl
instance : Dec Val where
  ty := .struct [.bool, .int .i64]
  tysz := rfl
  dec ts h := by
    have h := mem_struct.1 h
    obtain ⟨a0, r0, rfl, m0, h⟩ := memL_cons.1 h
    obtain ⟨a1, r1, rfl, m1, h⟩ := memL_cons.1 h
    obtain rfl := memL_nil.1 h
    obtain ⟨x_ref, rfl⟩ := mem_bool.1 m0
    obtain ⟨x_n, rfl, _⟩ := mem_int.1 m1
    exact ⟨⟨x_ref, x_n⟩, rfl⟩
theorem laws_toVal_ok (x : Val) (h : sm x) : ret Γ n_laws_toVal [ag x] = some [.a (Enc.cells true x)] := by
  obtain ⟨x_ref, x_n⟩ := x
  refine ret_of g_laws_toVal ?_
  simp [a_laws_toVal, c_laws_toVal]
theorem laws_eqVal_ok (x y : Val) (h : sm x) : ret Γ n_laws_eqVal [ag x, ag y] = some [.o (.v (.bool (decide (x = y))))] := by
  obtain ⟨x_ref, x_n⟩ := x
  obtain ⟨y_ref, y_n⟩ := y
  refine ret_of g_laws_eqVal ?_
  simp [a_laws_eqVal, c_laws_eqVal]
  by_cases h0 : x_ref = y_ref
  rotate_left
  · simp [h0]
  by_cases h1 : x_n = y_n
  rotate_left
  · simp [h0, h1]
  simp [h0, h1]
theorem laws_toValS_ok (xs : List Val) (h : sml xs) : ret Γ n_laws_toValS [al xs] = some [.o (tl true xs)] := tos_gen [.v (.bool false), .v (.int .i64 0)] rfl g_laws_toValS (fun _ => rfl) laws_toVal_ok xs h (by decide)
theorem laws_eqValS_ok (xs ys : List Val) (h : sml xs) : ret Γ n_laws_eqValS [al xs, al ys] = some [.o (.v (.bool (decide (xs = ys))))] := eqS_gen g_laws_eqValS laws_eqVal_ok xs ys h
theorem laws_szValS_ok (xs : List Val) (left : Int) (h : sml xs) (hl : 0 ≤ left ∧ left ≤ 1048576) : ret Γ n_laws_szValS [al xs, ai left] = some [.o (.v (.int .i64 (if left < xs.length then -1 else left - xs.length)))] := sz0_gen g_laws_szValS xs left h hl
structure Lock where
  id : Int
  who : Int
  count : Int
  deriving DecidableEq
instance : Enc Lock where
  sz := 3
  cells o x := [.v (.int .i64 x.id), .v (.int .i64 x.who), .v (.int .i64 x.count)]
  len _ _ := rfl
  fz o x := by simp
  own x := by simp
  pos := by decide
@[simp] theorem Lock.cells (o : Bool) (x : Lock) : Enc.cells o x = [.v (.int .i64 x.id), .v (.int .i64 x.who), .v (.int .i64 x.count)] := rfl
@[simp] theorem Lock.sz : Enc.sz Lock = 3 := rfl
instance : Dec Lock where
  ty := .struct [.int .i64, .int .i64, .int .i64]
  tysz := rfl
  dec ts h := by
    have h := mem_struct.1 h
    obtain ⟨a0, r0, rfl, m0, h⟩ := memL_cons.1 h
    obtain ⟨a1, r1, rfl, m1, h⟩ := memL_cons.1 h
    obtain ⟨a2, r2, rfl, m2, h⟩ := memL_cons.1 h
    obtain rfl := memL_nil.1 h
    obtain ⟨x_id, rfl, _⟩ := mem_int.1 m0
    obtain ⟨x_who, rfl, _⟩ := mem_int.1 m1
    obtain ⟨x_count, rfl, _⟩ := mem_int.1 m2
    exact ⟨⟨x_id, x_who, x_count⟩, rfl⟩
structure Object where
  id : Int
  cls : Int
  fields : List Val
  deriving DecidableEq
instance : Enc Object where
  sz := 3
  cells o x := [.v (.int .i64 x.id), .v (.int .i64 x.cls), tl o x.fields]
  len _ _ := rfl
  fz o x := by simp
  own x := by simp
  pos := by decide
@[simp] theorem Object.cells (o : Bool) (x : Object) : Enc.cells o x = [.v (.int .i64 x.id), .v (.int .i64 x.cls), tl o x.fields] := rfl
@[simp] theorem Object.sz : Enc.sz Object = 3 := rfl
instance : Dec Object where
  ty := .struct [.int .i64, .int .i64, .slice (.struct [.bool, .int .i64])]
  tysz := rfl
  dec ts h := by
    have h := mem_struct.1 h
    obtain ⟨a0, r0, rfl, m0, h⟩ := memL_cons.1 h
    obtain ⟨a1, r1, rfl, m1, h⟩ := memL_cons.1 h
    obtain ⟨a2, r2, rfl, m2, h⟩ := memL_cons.1 h
    obtain rfl := memL_nil.1 h
    obtain ⟨x_id, rfl, _⟩ := mem_int.1 m0
    obtain ⟨x_cls, rfl, _⟩ := mem_int.1 m1
    obtain ⟨x_fields, rfl⟩ := dec_list2 (α := Val) m2
    exact ⟨⟨x_id, x_cls, x_fields⟩, rfl⟩
def Object.w (x : Object) : Nat := x.fields.length
structure Memory where
  objects : List Object
  locks : List Lock
  deriving DecidableEq
instance : Enc Memory where
  sz := 2
  cells o x := [tl o x.objects, tl o x.locks]
  len _ _ := rfl
  fz o x := by simp
  own x := by simp
  pos := by decide
@[simp] theorem Memory.cells (o : Bool) (x : Memory) : Enc.cells o x = [tl o x.objects, tl o x.locks] := rfl
@[simp] theorem Memory.sz : Enc.sz Memory = 2 := rfl
instance : Dec Memory where
  ty := .struct [.slice (.struct [.int .i64, .int .i64, .slice (.struct [.bool, .int .i64])]), .slice (.struct [.int .i64, .int .i64, .int .i64])]
  tysz := rfl
  dec ts h := by
    have h := mem_struct.1 h
    obtain ⟨a0, r0, rfl, m0, h⟩ := memL_cons.1 h
    obtain ⟨a1, r1, rfl, m1, h⟩ := memL_cons.1 h
    obtain rfl := memL_nil.1 h
    obtain ⟨x_objects, rfl⟩ := dec_list2 (α := Object) m0
    obtain ⟨x_locks, rfl⟩ := dec_list2 (α := Lock) m1
    exact ⟨⟨x_objects, x_locks⟩, rfl⟩
def Memory.w (x : Memory) : Nat := (x.objects.length + wsum Object.w x.objects) + x.locks.length
structure Frame where
  kind : Int
  method : Int
  pc : Int
  locals : List Val
  stack : List Val
  deriving DecidableEq
instance : Enc Frame where
  sz := 5
  cells o x := [.v (.int .i64 x.kind), .v (.int .i64 x.method), .v (.int .i64 x.pc), tl o x.locals, tl o x.stack]
  len _ _ := rfl
  fz o x := by simp
  own x := by simp
  pos := by decide
@[simp] theorem Frame.cells (o : Bool) (x : Frame) : Enc.cells o x = [.v (.int .i64 x.kind), .v (.int .i64 x.method), .v (.int .i64 x.pc), tl o x.locals, tl o x.stack] := rfl
@[simp] theorem Frame.sz : Enc.sz Frame = 5 := rfl
instance : Dec Frame where
  ty := .struct [.int .i64, .int .i64, .int .i64, .slice (.struct [.bool, .int .i64]), .slice (.struct [.bool, .int .i64])]
  tysz := rfl
  dec ts h := by
    have h := mem_struct.1 h
    obtain ⟨a0, r0, rfl, m0, h⟩ := memL_cons.1 h
    obtain ⟨a1, r1, rfl, m1, h⟩ := memL_cons.1 h
    obtain ⟨a2, r2, rfl, m2, h⟩ := memL_cons.1 h
    obtain ⟨a3, r3, rfl, m3, h⟩ := memL_cons.1 h
    obtain ⟨a4, r4, rfl, m4, h⟩ := memL_cons.1 h
    obtain rfl := memL_nil.1 h
    obtain ⟨x_kind, rfl, _⟩ := mem_int.1 m0
    obtain ⟨x_method, rfl, _⟩ := mem_int.1 m1
    obtain ⟨x_pc, rfl, _⟩ := mem_int.1 m2
    obtain ⟨x_locals, rfl⟩ := dec_list2 (α := Val) m3
    obtain ⟨x_stack, rfl⟩ := dec_list2 (α := Val) m4
    exact ⟨⟨x_kind, x_method, x_pc, x_locals, x_stack⟩, rfl⟩
def Frame.w (x : Frame) : Nat := x.locals.length + x.stack.length
theorem laws_toFrame_ok (x : Frame) (h : sm x) : ret Γ n_laws_toFrame [ag x] = some [.a (Enc.cells true x)] := by
  obtain ⟨x_kind, x_method, x_pc, x_locals, x_stack⟩ := x
  simp only [sm, Frame.cells, wtL, T.wt, valWt, tl] at h
  have e3 := laws_toValS_ok x_locals (by simp only [sml]; omega)
  simp at e3
  have e4 := laws_toValS_ok x_stack (by simp only [sml]; omega)
  simp at e4
  refine ret_of g_laws_toFrame ?_
  simp [a_laws_toFrame, c_laws_toFrame, e3, e4]
theorem laws_eqFrame_ok (x y : Frame) (h : sm x) : ret Γ n_laws_eqFrame [ag x, ag y] = some [.o (.v (.bool (decide (x = y))))] := by
  obtain ⟨x_kind, x_method, x_pc, x_locals, x_stack⟩ := x
  obtain ⟨y_kind, y_method, y_pc, y_locals, y_stack⟩ := y
  simp only [sm, Frame.cells, wtL, T.wt, valWt, tl] at h
  have e3 := laws_eqValS_ok x_locals y_locals (by simp only [sml]; omega)
  simp at e3
  have e4 := laws_eqValS_ok x_stack y_stack (by simp only [sml]; omega)
  simp at e4
  refine ret_of g_laws_eqFrame ?_
  simp [a_laws_eqFrame, c_laws_eqFrame, e3, e4]
  by_cases h0 : x_kind = y_kind
  rotate_left
  · simp [h0]
  by_cases h1 : x_method = y_method
  rotate_left
  · simp [h0, h1]
  by_cases h2 : x_pc = y_pc
  rotate_left
  · simp [h0, h1, h2]
  by_cases h3 : x_locals = y_locals
  rotate_left
  · simp [h0, h1, h2, h3]
  by_cases h4 : x_stack = y_stack
  rotate_left
  · simp [h0, h1, h2, h3, h4]
  simp [h0, h1, h2, h3, h4]
theorem laws_szFrame_ok (x : Frame) (left : Int) (h : sm x) (hl : 0 ≤ left ∧ left ≤ 1048576) : ret Γ n_laws_szFrame [ag x, ai left] = some [.o (.v (.int .i64 (if left < (Frame.w x : Nat) then -1 else left - (Frame.w x : Nat))))] := by
  obtain ⟨x_kind, x_method, x_pc, x_locals, x_stack⟩ := x
  simp only [sm, Frame.cells, wtL, T.wt, valWt, tl] at h
  suffices key : ∀ R : Int, (left < ((x_locals.length + x_stack.length : Nat) : Int) → R = -1) → (¬ left < ((x_locals.length + x_stack.length : Nat) : Int) → R = left - ((x_locals.length + x_stack.length : Nat) : Int)) → ret Γ n_laws_szFrame [ag (⟨x_kind, x_method, x_pc, x_locals, x_stack⟩ : Frame), ai left] = some [.o (.v (.int .i64 R))] from key _ (fun h => if_pos h) (fun h => if_neg h)
  intro R hA hB
  refine ret_of g_laws_szFrame ?_
  have e0 := laws_szValS_ok x_locals (left) (by simp only [sml]; omega) (by omega)
  by_cases h0 : left < ((x_locals.length : Nat) : Int)
  · rw [if_pos h0] at e0
    simp at e0
    simp [a_laws_szFrame, c_laws_szFrame, e0]
    rw [hA (by omega)]
  rw [if_neg h0] at e0
  simp at e0
  have p0 : ¬ left - (x_locals.length : Int) < 0 := by omega
  have e1 := laws_szValS_ok x_stack (left - (x_locals.length : Int)) (by simp only [sml]; omega) (by omega)
  by_cases h1 : left - (x_locals.length : Int) < ((x_stack.length : Nat) : Int)
  · rw [if_pos h1] at e1
    simp at e1
    simp [a_laws_szFrame, c_laws_szFrame, e0, p0, e1]
    rw [hA (by omega)]
  rw [if_neg h1] at e1
  simp at e1
  have p1 : ¬ left - (x_locals.length : Int) - (x_stack.length : Int) < 0 := by omega
  simp [a_laws_szFrame, c_laws_szFrame, e0, p0, e1, p1]
  all_goals first
    | (rw [hB (by omega)]; done)
    | (rw [hB (by omega)]; omega)
theorem laws_toFrameS_ok (xs : List Frame) (h : sml xs) : ret Γ n_laws_toFrameS [al xs] = some [.o (tl true xs)] := to_gen [.v (.int .i64 0), .v (.int .i64 0), .v (.int .i64 0), .l true 2 [], .l true 2 []] rfl g_laws_toFrameS laws_toFrame_ok xs h (by decide)
theorem laws_eqFrameS_ok (xs ys : List Frame) (h : sml xs) : ret Γ n_laws_eqFrameS [al xs, al ys] = some [.o (.v (.bool (decide (xs = ys))))] := eqS_gen g_laws_eqFrameS laws_eqFrame_ok xs ys h
theorem laws_szFrameS_ok (xs : List Frame) (left : Int) (h : sml xs) (hl : 0 ≤ left ∧ left ≤ 1048576) : ret Γ n_laws_szFrameS [al xs, ai left] = some [.o (.v (.int .i64 (if left < ((xs.length + wsum Frame.w xs : Nat) : Int) then -1 else left - ((xs.length + wsum Frame.w xs : Nat) : Int))))] := szS_gen Frame.w g_laws_szFrameS laws_szFrame_ok xs left h hl
structure Thread where
  id : Int
  frames : List Frame
  state : Int
  made : Int
  deriving DecidableEq
instance : Enc Thread where
  sz := 4
  cells o x := [.v (.int .i64 x.id), tl o x.frames, .v (.int .i64 x.state), .v (.int .i64 x.made)]
  len _ _ := rfl
  fz o x := by simp
  own x := by simp
  pos := by decide
@[simp] theorem Thread.cells (o : Bool) (x : Thread) : Enc.cells o x = [.v (.int .i64 x.id), tl o x.frames, .v (.int .i64 x.state), .v (.int .i64 x.made)] := rfl
@[simp] theorem Thread.sz : Enc.sz Thread = 4 := rfl
instance : Dec Thread where
  ty := .struct [.int .i64, .slice (.struct [.int .i64, .int .i64, .int .i64, .slice (.struct [.bool, .int .i64]), .slice (.struct [.bool, .int .i64])]), .int .i64, .int .i64]
  tysz := rfl
  dec ts h := by
    have h := mem_struct.1 h
    obtain ⟨a0, r0, rfl, m0, h⟩ := memL_cons.1 h
    obtain ⟨a1, r1, rfl, m1, h⟩ := memL_cons.1 h
    obtain ⟨a2, r2, rfl, m2, h⟩ := memL_cons.1 h
    obtain ⟨a3, r3, rfl, m3, h⟩ := memL_cons.1 h
    obtain rfl := memL_nil.1 h
    obtain ⟨x_id, rfl, _⟩ := mem_int.1 m0
    obtain ⟨x_frames, rfl⟩ := dec_list2 (α := Frame) m1
    obtain ⟨x_state, rfl, _⟩ := mem_int.1 m2
    obtain ⟨x_made, rfl, _⟩ := mem_int.1 m3
    exact ⟨⟨x_id, x_frames, x_state, x_made⟩, rfl⟩
def Thread.w (x : Thread) : Nat := (x.frames.length + wsum Frame.w x.frames)
theorem laws_toThread_ok (x : Thread) (h : sm x) : ret Γ n_laws_toThread [ag x] = some [.a (Enc.cells true x)] := by
  obtain ⟨x_id, x_frames, x_state, x_made⟩ := x
  simp only [sm, Thread.cells, wtL, T.wt, valWt, tl] at h
  have e1 := laws_toFrameS_ok x_frames (by simp only [sml]; omega)
  simp at e1
  refine ret_of g_laws_toThread ?_
  simp [a_laws_toThread, c_laws_toThread, e1]
theorem laws_eqThread_ok (x y : Thread) (h : sm x) : ret Γ n_laws_eqThread [ag x, ag y] = some [.o (.v (.bool (decide (x = y))))] := by
  obtain ⟨x_id, x_frames, x_state, x_made⟩ := x
  obtain ⟨y_id, y_frames, y_state, y_made⟩ := y
  simp only [sm, Thread.cells, wtL, T.wt, valWt, tl] at h
  have e1 := laws_eqFrameS_ok x_frames y_frames (by simp only [sml]; omega)
  simp at e1
  refine ret_of g_laws_eqThread ?_
  simp [a_laws_eqThread, c_laws_eqThread, e1]
  by_cases h0 : x_id = y_id
  rotate_left
  · simp [h0]
  by_cases h1 : x_frames = y_frames
  rotate_left
  · simp [h0, h1]
  by_cases h2 : x_state = y_state
  rotate_left
  · simp [h0, h1, h2]
  by_cases h3 : x_made = y_made
  rotate_left
  · simp [h0, h1, h2, h3]
  simp [h0, h1, h2, h3]
theorem laws_szThread_ok (x : Thread) (left : Int) (h : sm x) (hl : 0 ≤ left ∧ left ≤ 1048576) : ret Γ n_laws_szThread [ag x, ai left] = some [.o (.v (.int .i64 (if left < (Thread.w x : Nat) then -1 else left - (Thread.w x : Nat))))] := by
  obtain ⟨x_id, x_frames, x_state, x_made⟩ := x
  simp only [sm, Thread.cells, wtL, T.wt, valWt, tl] at h
  suffices key : ∀ R : Int, (left < (((x_frames.length + wsum Frame.w x_frames) : Nat) : Int) → R = -1) → (¬ left < (((x_frames.length + wsum Frame.w x_frames) : Nat) : Int) → R = left - (((x_frames.length + wsum Frame.w x_frames) : Nat) : Int)) → ret Γ n_laws_szThread [ag (⟨x_id, x_frames, x_state, x_made⟩ : Thread), ai left] = some [.o (.v (.int .i64 R))] from key _ (fun h => if_pos h) (fun h => if_neg h)
  intro R hA hB
  refine ret_of g_laws_szThread ?_
  have e0 := laws_szFrameS_ok x_frames (left) (by simp only [sml]; omega) (by omega)
  by_cases h0 : left < (((x_frames.length + wsum Frame.w x_frames) : Nat) : Int)
  · rw [if_pos h0] at e0
    simp at e0
    simp [a_laws_szThread, c_laws_szThread, e0]
    rw [hA (by omega)]
  rw [if_neg h0] at e0
  simp at e0
  have p0 : ¬ left - ((x_frames.length : Int) + ((wsum Frame.w x_frames : Nat) : Int)) < 0 := by omega
  simp [a_laws_szThread, c_laws_szThread, e0, p0]
  all_goals first
    | (rw [hB (by omega)]; done)
    | (rw [hB (by omega)]; omega)
structure Ins where
  op : Int
  n : Int
  deriving DecidableEq
instance : Enc Ins where
  sz := 2
  cells o x := [.v (.int .i64 x.op), .v (.int .i64 x.n)]
  len _ _ := rfl
  fz o x := by simp
  own x := by simp
  pos := by decide
@[simp] theorem Ins.cells (o : Bool) (x : Ins) : Enc.cells o x = [.v (.int .i64 x.op), .v (.int .i64 x.n)] := rfl
@[simp] theorem Ins.sz : Enc.sz Ins = 2 := rfl
instance : Dec Ins where
  ty := .struct [.int .i64, .int .i64]
  tysz := rfl
  dec ts h := by
    have h := mem_struct.1 h
    obtain ⟨a0, r0, rfl, m0, h⟩ := memL_cons.1 h
    obtain ⟨a1, r1, rfl, m1, h⟩ := memL_cons.1 h
    obtain rfl := memL_nil.1 h
    obtain ⟨x_op, rfl, _⟩ := mem_int.1 m0
    obtain ⟨x_n, rfl, _⟩ := mem_int.1 m1
    exact ⟨⟨x_op, x_n⟩, rfl⟩
structure Const where
  kind : Int
  n : Int
  a : ByteArray
  b : ByteArray
  deriving DecidableEq
instance : Enc Const where
  sz := 4
  cells o x := [.v (.int .i64 x.kind), .v (.int .i64 x.n), .v (.string x.a), .v (.string x.b)]
  len _ _ := rfl
  fz o x := by simp
  own x := by simp
  pos := by decide
@[simp] theorem Const.cells (o : Bool) (x : Const) : Enc.cells o x = [.v (.int .i64 x.kind), .v (.int .i64 x.n), .v (.string x.a), .v (.string x.b)] := rfl
@[simp] theorem Const.sz : Enc.sz Const = 4 := rfl
instance : Dec Const where
  ty := .struct [.int .i64, .int .i64, .str, .str]
  tysz := rfl
  dec ts h := by
    have h := mem_struct.1 h
    obtain ⟨a0, r0, rfl, m0, h⟩ := memL_cons.1 h
    obtain ⟨a1, r1, rfl, m1, h⟩ := memL_cons.1 h
    obtain ⟨a2, r2, rfl, m2, h⟩ := memL_cons.1 h
    obtain ⟨a3, r3, rfl, m3, h⟩ := memL_cons.1 h
    obtain rfl := memL_nil.1 h
    obtain ⟨x_kind, rfl, _⟩ := mem_int.1 m0
    obtain ⟨x_n, rfl, _⟩ := mem_int.1 m1
    obtain ⟨x_a, rfl⟩ := mem_str.1 m2
    obtain ⟨x_b, rfl⟩ := mem_str.1 m3
    exact ⟨⟨x_kind, x_n, x_a, x_b⟩, rfl⟩
def Const.w (x : Const) : Nat := x.a.size + x.b.size
structure Field where
  name : ByteArray
  type : ByteArray
  deriving DecidableEq
instance : Enc Field where
  sz := 2
  cells o x := [.v (.string x.name), .v (.string x.type)]
  len _ _ := rfl
  fz o x := by simp
  own x := by simp
  pos := by decide
@[simp] theorem Field.cells (o : Bool) (x : Field) : Enc.cells o x = [.v (.string x.name), .v (.string x.type)] := rfl
@[simp] theorem Field.sz : Enc.sz Field = 2 := rfl
instance : Dec Field where
  ty := .struct [.str, .str]
  tysz := rfl
  dec ts h := by
    have h := mem_struct.1 h
    obtain ⟨a0, r0, rfl, m0, h⟩ := memL_cons.1 h
    obtain ⟨a1, r1, rfl, m1, h⟩ := memL_cons.1 h
    obtain rfl := memL_nil.1 h
    obtain ⟨x_name, rfl⟩ := mem_str.1 m0
    obtain ⟨x_type, rfl⟩ := mem_str.1 m1
    exact ⟨⟨x_name, x_type⟩, rfl⟩
def Field.w (x : Field) : Nat := x.name.size + x.type.size
structure Code where
  name : ByteArray
  owner : Int
  params : List ByteArray
  result : ByteArray
  locals : Int
  list : List Ins
  deriving DecidableEq
instance : Enc Code where
  sz := 6
  cells o x := [.v (.string x.name), .v (.int .i64 x.owner), tl o x.params, .v (.string x.result), .v (.int .i64 x.locals), tl o x.list]
  len _ _ := rfl
  fz o x := by simp
  own x := by simp
  pos := by decide
@[simp] theorem Code.cells (o : Bool) (x : Code) : Enc.cells o x = [.v (.string x.name), .v (.int .i64 x.owner), tl o x.params, .v (.string x.result), .v (.int .i64 x.locals), tl o x.list] := rfl
@[simp] theorem Code.sz : Enc.sz Code = 6 := rfl
instance : Dec Code where
  ty := .struct [.str, .int .i64, .slice .str, .str, .int .i64, .slice (.struct [.int .i64, .int .i64])]
  tysz := rfl
  dec ts h := by
    have h := mem_struct.1 h
    obtain ⟨a0, r0, rfl, m0, h⟩ := memL_cons.1 h
    obtain ⟨a1, r1, rfl, m1, h⟩ := memL_cons.1 h
    obtain ⟨a2, r2, rfl, m2, h⟩ := memL_cons.1 h
    obtain ⟨a3, r3, rfl, m3, h⟩ := memL_cons.1 h
    obtain ⟨a4, r4, rfl, m4, h⟩ := memL_cons.1 h
    obtain ⟨a5, r5, rfl, m5, h⟩ := memL_cons.1 h
    obtain rfl := memL_nil.1 h
    obtain ⟨x_name, rfl⟩ := mem_str.1 m0
    obtain ⟨x_owner, rfl, _⟩ := mem_int.1 m1
    obtain ⟨x_params, rfl⟩ := dec_list2 (α := ByteArray) m2
    obtain ⟨x_result, rfl⟩ := mem_str.1 m3
    obtain ⟨x_locals, rfl, _⟩ := mem_int.1 m4
    obtain ⟨x_list, rfl⟩ := dec_list2 (α := Ins) m5
    exact ⟨⟨x_name, x_owner, x_params, x_result, x_locals, x_list⟩, rfl⟩
def Code.w (x : Code) : Nat := x.name.size + (x.params.length + wsum ByteArray.size x.params) + x.result.size + x.list.length
structure Kind where
  name : ByteArray
  super : Int
  pool : List Const
  fields : List Field
  methods : List Code
  deriving DecidableEq
instance : Enc Kind where
  sz := 5
  cells o x := [.v (.string x.name), .v (.int .i64 x.super), tl o x.pool, tl o x.fields, tl o x.methods]
  len _ _ := rfl
  fz o x := by simp
  own x := by simp
  pos := by decide
@[simp] theorem Kind.cells (o : Bool) (x : Kind) : Enc.cells o x = [.v (.string x.name), .v (.int .i64 x.super), tl o x.pool, tl o x.fields, tl o x.methods] := rfl
@[simp] theorem Kind.sz : Enc.sz Kind = 5 := rfl
instance : Dec Kind where
  ty := .struct [.str, .int .i64, .slice (.struct [.int .i64, .int .i64, .str, .str]), .slice (.struct [.str, .str]), .slice (.struct [.str, .int .i64, .slice .str, .str, .int .i64, .slice (.struct [.int .i64, .int .i64])])]
  tysz := rfl
  dec ts h := by
    have h := mem_struct.1 h
    obtain ⟨a0, r0, rfl, m0, h⟩ := memL_cons.1 h
    obtain ⟨a1, r1, rfl, m1, h⟩ := memL_cons.1 h
    obtain ⟨a2, r2, rfl, m2, h⟩ := memL_cons.1 h
    obtain ⟨a3, r3, rfl, m3, h⟩ := memL_cons.1 h
    obtain ⟨a4, r4, rfl, m4, h⟩ := memL_cons.1 h
    obtain rfl := memL_nil.1 h
    obtain ⟨x_name, rfl⟩ := mem_str.1 m0
    obtain ⟨x_super, rfl, _⟩ := mem_int.1 m1
    obtain ⟨x_pool, rfl⟩ := dec_list2 (α := Const) m2
    obtain ⟨x_fields, rfl⟩ := dec_list2 (α := Field) m3
    obtain ⟨x_methods, rfl⟩ := dec_list2 (α := Code) m4
    exact ⟨⟨x_name, x_super, x_pool, x_fields, x_methods⟩, rfl⟩
def Kind.w (x : Kind) : Nat := x.name.size + (x.pool.length + wsum Const.w x.pool) + (x.fields.length + wsum Field.w x.fields) + (x.methods.length + wsum Code.w x.methods)
structure Prog where
  kinds : List Kind
  deriving DecidableEq
instance : Enc Prog where
  sz := 1
  cells o x := [tl o x.kinds]
  len _ _ := rfl
  fz o x := by simp
  own x := by simp
  pos := by decide
@[simp] theorem Prog.cells (o : Bool) (x : Prog) : Enc.cells o x = [tl o x.kinds] := rfl
@[simp] theorem Prog.sz : Enc.sz Prog = 1 := rfl
instance : Dec Prog where
  ty := .struct [.slice (.struct [.str, .int .i64, .slice (.struct [.int .i64, .int .i64, .str, .str]), .slice (.struct [.str, .str]), .slice (.struct [.str, .int .i64, .slice .str, .str, .int .i64, .slice (.struct [.int .i64, .int .i64])])])]
  tysz := rfl
  dec ts h := by
    have h := mem_struct.1 h
    obtain ⟨a0, r0, rfl, m0, h⟩ := memL_cons.1 h
    obtain rfl := memL_nil.1 h
    obtain ⟨x_kinds, rfl⟩ := dec_list2 (α := Kind) m0
    exact ⟨⟨x_kinds⟩, rfl⟩
def Prog.w (x : Prog) : Nat := (x.kinds.length + wsum Kind.w x.kinds)
structure Typ where
  kind : Int
  cls : Int
  deriving DecidableEq
instance : Enc Typ where
  sz := 2
  cells o x := [.v (.int .i64 x.kind), .v (.int .i64 x.cls)]
  len _ _ := rfl
  fz o x := by simp
  own x := by simp
  pos := by decide
@[simp] theorem Typ.cells (o : Bool) (x : Typ) : Enc.cells o x = [.v (.int .i64 x.kind), .v (.int .i64 x.cls)] := rfl
@[simp] theorem Typ.sz : Enc.sz Typ = 2 := rfl
instance : Dec Typ where
  ty := .struct [.int .i64, .int .i64]
  tysz := rfl
  dec ts h := by
    have h := mem_struct.1 h
    obtain ⟨a0, r0, rfl, m0, h⟩ := memL_cons.1 h
    obtain ⟨a1, r1, rfl, m1, h⟩ := memL_cons.1 h
    obtain rfl := memL_nil.1 h
    obtain ⟨x_kind, rfl, _⟩ := mem_int.1 m0
    obtain ⟨x_cls, rfl, _⟩ := mem_int.1 m1
    exact ⟨⟨x_kind, x_cls⟩, rfl⟩
structure Flow where
  locals : List Typ
  stack : List Typ
  held : Int
  deriving DecidableEq
instance : Enc Flow where
  sz := 3
  cells o x := [tl o x.locals, tl o x.stack, .v (.int .i64 x.held)]
  len _ _ := rfl
  fz o x := by simp
  own x := by simp
  pos := by decide
@[simp] theorem Flow.cells (o : Bool) (x : Flow) : Enc.cells o x = [tl o x.locals, tl o x.stack, .v (.int .i64 x.held)] := rfl
@[simp] theorem Flow.sz : Enc.sz Flow = 3 := rfl
instance : Dec Flow where
  ty := .struct [.slice (.struct [.int .i64, .int .i64]), .slice (.struct [.int .i64, .int .i64]), .int .i64]
  tysz := rfl
  dec ts h := by
    have h := mem_struct.1 h
    obtain ⟨a0, r0, rfl, m0, h⟩ := memL_cons.1 h
    obtain ⟨a1, r1, rfl, m1, h⟩ := memL_cons.1 h
    obtain ⟨a2, r2, rfl, m2, h⟩ := memL_cons.1 h
    obtain rfl := memL_nil.1 h
    obtain ⟨x_locals, rfl⟩ := dec_list2 (α := Typ) m0
    obtain ⟨x_stack, rfl⟩ := dec_list2 (α := Typ) m1
    obtain ⟨x_held, rfl, _⟩ := mem_int.1 m2
    exact ⟨⟨x_locals, x_stack, x_held⟩, rfl⟩
def Flow.w (x : Flow) : Nat := x.locals.length + x.stack.length

def inR (x lo hi : Int) : Bool := decide (lo ≤ x) && decide (x ≤ hi)
def count (who : Int) : List Stamp → Int
  | [] => 0
  | x :: xs => if x.who = who then x.n else count who xs
/-- A clock, one stamp after another. -/
def stampOk (xs : List Stamp) (i : Nat) (x : Stamp) : Bool := inR x.who 1 1000000 && inR x.n 1 16777215 && (decide (i = 0) || decide ((xs.getD (i - 1) x).who < x.who))
def clockFrom (xs : List Stamp) : List Stamp → Nat → Bool
  | [], _ => true
  | x :: r, i => stampOk xs i x && clockFrom xs r (i + 1)
def clockOk (xs : List Stamp) : Bool := clockFrom xs xs 0
def knowsAll (a : List Stamp) (b : List Stamp) : Bool := b.all fun s => decide (s.n ≤ count s.who a)
def knows (a b : List Stamp) : Bool := clockOk a && clockOk b && knowsAll a b

theorem inR_nat {k : Int} {n : Nat} (h : inR k 0 ((n : Int) - 1) = true) : ∃ j : Nat, k = (j : Int) ∧ j < n := by
  simp [inR] at h
  exact ⟨k.toNat, by omega, by omega⟩
theorem fidx_nil {α : Type} (p : α → Bool) (i : Nat) : fidx p [] i = -1 := rfl
theorem fidx_cons {α : Type} (p : α → Bool) (x : α) (xs : List α) (i : Nat) : fidx p (x :: xs) i = if p x = true then (i : Int) else fidx p xs (i + 1) := rfl
def kindOf (p : List Kind) (s : ByteArray) : Int := fidx (fun k => decide (k.name = s)) p 0

@[simp] theorem veqL_nl : veqL [] [] [] = some true := rfl
@[simp] theorem veqL_int (k : IntKind) (a b : Int) (ks : List Nat) (xs ys : List SV) : veqL (1 :: ks) (.c (.v (.int k a)) :: xs) (.c (.v (.int k b)) :: ys) = (veqL ks xs ys).map (fun q => decide (a = b) && q) := by
  simp only [veqL, veq, if_true]
  cases veqL ks xs ys <;> by_cases h : a = b <;> simp [h]
@[simp] theorem veqL_bool (a b : Bool) (ks : List Nat) (xs ys : List SV) : veqL (0 :: ks) (.c (.v (.bool a)) :: xs) (.c (.v (.bool b)) :: ys) = (veqL ks xs ys).map (fun q => (a == b) && q) := by
  simp only [veqL, veq]
  cases veqL ks xs ys <;> simp
theorem bytes_beq (a b : ByteArray) : (a == b) = decide (a = b) := by
  obtain ⟨x⟩ := a
  obtain ⟨y⟩ := b
  have h : (ByteArray.mk x == ByteArray.mk y) = (x == y) := rfl
  rw [h]
  by_cases h : x = y <;> simp [h]
@[simp] theorem veqL_str (a b : ByteArray) (ks : List Nat) (xs ys : List SV) : veqL (2 :: ks) (.c (.v (.string a)) :: xs) (.c (.v (.string b)) :: ys) = (veqL ks xs ys).map (fun q => decide (a = b) && q) := by
  simp only [veqL, veq, bytes_beq]
  cases veqL ks xs ys <;> by_cases h : a = b <;> simp [h]
def typeOk (n : Nat) (k c : Int) : Bool := if k = 3 then inR c 0 ((n : Int) - 1) else inR k 0 2 && decide (c = 0)
/-- a is b, or has it above, in so many steps. -/
def subN (p : List Kind) (b : Int) : Nat → Int → Bool
  | 0, _ => false
  | n + 1, a => if inR a 0 ((p.length : Int) - 1) = true then (if a = b then true else match p[a.toNat]? with | some k => subN p b n k.super | none => false) else false
def sub (p : List Kind) (a b : Int) : Bool := inR b 0 ((p.length : Int) - 1) && subN p b 7 a
def typeOf (p : List Kind) (s : ByteArray) : Typ := if s = ⟨#[73]⟩ then ⟨1, 0⟩ else if kindOf p s < 0 then ⟨0, 0⟩ else ⟨3, kindOf p s⟩
def fits (p : List Kind) (ak ac bk bc : Int) : Bool := typeOk p.length ak ac && typeOk p.length bk bc && (decide (bk = 0) || (decide (ak = bk) && decide (ac = bc)) || (decide (bk = 3) && (decide (ak = 2) || (decide (ak = 3) && sub p ac bc))))

@[simp] theorem idxOf_id (a b : Id) (l : List Id) : List.idxOf a (b :: l) = if b = a then 0 else List.idxOf a l + 1 := by
  rw [List.idxOf_cons]
  by_cases h : b = a
  · subst h; simp
  · have e : (b == a) = false := by simpa using h
    simp [h, e]
theorem sm_Typ (x : Typ) : sm x := by
  simp only [sm, Typ.cells, wtL, T.wt, valWt]; omega
theorem sm_Kind {k : Kind} (h : sm k) : sml k.pool ∧ sml k.fields ∧ sml k.methods := by
  simp only [sm, Kind.cells, wtL, T.wt, valWt, tl] at h
  exact ⟨by simp only [sml]; omega, by simp only [sml]; omega, by simp only [sml]; omega⟩
theorem sm_Prog {p : Prog} (h : sm p) : sml p.kinds := by
  simp only [sm, Prog.cells, wtL, T.wt, valWt, tl] at h
  simp only [sml]; omega
theorem sm_Flow {p : Flow} (h : sm p) : sml p.locals ∧ sml p.stack := by
  simp only [sm, Flow.cells, wtL, T.wt, valWt, tl] at h
  exact ⟨by simp only [sml]; omega, by simp only [sml]; omega⟩
def fieldIx (p : List Kind) (k : Int) (s : ByteArray) : Int := if inR k 0 ((p.length : Int) - 1) = true then (match p[k.toNat]? with | some q => fidx (fun f => decide (f.name = s)) q.fields 0 | none => -1) else -1
def methodIx (p : List Kind) (k : Int) (s : ByteArray) : Int := if inR k 0 ((p.length : Int) - 1) = true then (match p[k.toNat]? with | some q => fidx (fun f => decide (f.name = s)) q.methods 0 | none => -1) else -1
def flowOk (p : List Kind) (f : Flow) : Bool := f.locals.all (fun t => typeOk p.length t.kind t.cls) && f.stack.all (fun t => typeOk p.length t.kind t.cls) && (decide (f.locals.length ≤ 6) && decide (f.stack.length ≤ 6) && inR f.held 0 4)
theorem all_drop {α : Type} (f : α → Bool) {xs : List α} {i : Nat} (h : i < xs.length) : (xs.drop i).all f = (f xs[i] && (xs.drop (i + 1)).all f) := by rw [List.drop_eq_getElem_cons h]; rfl

def joinN (p : List Kind) (b : Int) : Nat → Int → Typ
  | 0, _ => ⟨0, 0⟩
  | n + 1, k => if inR k 0 ((p.length : Int) - 1) = true then (if sub p b k = true then ⟨3, k⟩ else match p[k.toNat]? with | some q => joinN p b n q.super | none => ⟨0, 0⟩) else ⟨0, 0⟩
def join (p : List Kind) (a b : Typ) : Typ := if fits p a.kind a.cls b.kind b.cls = true then b else if fits p b.kind b.cls a.kind a.cls = true then a else if (typeOk p.length a.kind a.cls && typeOk p.length b.kind b.cls && decide (a.kind = 3) && decide (b.kind = 3)) = true then (match p[a.cls.toNat]? with | some q => joinN p b.cls 6 q.super | none => ⟨0, 0⟩) else ⟨0, 0⟩
theorem fits_sub {p : List Kind} {a b : Int} (h1 : typeOk p.length 3 a = true) (h2 : typeOk p.length 3 b = true) (h : fits p 3 b 3 a = false) : sub p b a = false := by
  simp [fits, h1, h2] at h
  exact h.2



def allN (f : Nat → Bool) : Nat → Nat → Bool
  | 0, _ => true
  | n + 1, i => f i && allN f n (i + 1)
theorem allN_0 (f : Nat → Bool) (i : Nat) : allN f 0 i = true := rfl
theorem allN_step (f : Nat → Bool) {i n : Nat} (h : i < n) : allN f (n - i) i = (f i && allN f (n - (i + 1)) (i + 1)) := by
  have e : n - i = (n - (i + 1)) + 1 := by omega
  rw [e]; rfl
def lk {α : Type} (xs : List α) (i : Nat) (f : α → Bool) : Bool := match xs[i]? with | some x => f x | none => false
theorem lk_get {α : Type} {xs : List α} {i : Nat} (f : α → Bool) (h : i < xs.length) : lk xs i f = f xs[i] := by simp [lk, h]
def valOk (v : Val) : Bool := if v.ref = true then inR v.n 0 1000000 else inR v.n (-2147483648) 2147483647
def valsOk (xs : List Val) : Bool := allN (fun i => lk xs i valOk) xs.length 0
def hasMethod (p : List Kind) (k m : Int) : Bool := inR k 0 ((p.length : Int) - 1) && (match p[k.toNat]? with | some q => inR m 0 ((q.methods.length : Int) - 1) | none => false)
theorem hasMethod_get {p : List Kind} {k m : Int} (h : hasMethod p k m = true) : ∃ j i : Nat, ∃ hj : j < p.length, k = (j : Int) ∧ m = (i : Int) ∧ i < p[j].methods.length := by
  unfold hasMethod at h
  rw [Bool.and_eq_true] at h
  obtain ⟨h1, h2⟩ := h
  obtain ⟨j, rfl, hj⟩ := inR_nat h1
  simp only [Int.toNat_natCast, List.getElem?_eq_getElem hj] at h2
  obtain ⟨i, rfl, hi⟩ := inR_nat h2
  exact ⟨j, i, hj, rfl, rfl, hi⟩
theorem sm_Code {c : Code} (h : sm c) : sml c.list ∧ sml c.params := by
  simp only [sm, Code.cells, wtL, T.wt, valWt, tl] at h
  exact ⟨by simp only [sml]; omega, by simp only [sml]; omega⟩
theorem sm_Frame {c : Frame} (h : sm c) : sml c.locals ∧ sml c.stack := by
  simp only [sm, Frame.cells, wtL, T.wt, valWt, tl] at h
  exact ⟨by simp only [sml]; omega, by simp only [sml]; omega⟩
theorem sm_Thread {c : Thread} (h : sm c) : sml c.frames := by
  simp only [sm, Thread.cells, wtL, T.wt, valWt, tl] at h
  simp only [sml]; omega
theorem sm_Object {c : Object} (h : sm c) : sml c.fields := by
  simp only [sm, Object.cells, wtL, T.wt, valWt, tl] at h
  simp only [sml]; omega
theorem sm_Memory {c : Memory} (h : sm c) : sml c.objects ∧ sml c.locks := by
  simp only [sm, Memory.cells, wtL, T.wt, valWt, tl] at h
  exact ⟨by simp only [sml]; omega, by simp only [sml]; omega⟩
def methodAt (p : List Kind) (k m : Int) : Option Code := match p[k.toNat]? with | some q => q.methods[m.toNat]? | none => none
def frameOk (p : List Kind) (f : Frame) : Bool := hasMethod p f.kind f.method && (match methodAt p f.kind f.method with | some c => decide (c.owner = f.kind) && inR f.pc 0 ((c.list.length : Int) - 1) && decide ((f.locals.length : Int) = c.locals) && decide ((f.stack.length : Int) ≤ 6) && valsOk f.locals && valsOk f.stack | none => false)
def threadOk (p : List Kind) (t : Thread) : Bool := allN (fun i => lk t.frames i (frameOk p)) t.frames.length 0 && (inR t.id 1 1000000 && decide ((t.frames.length : Int) ≤ 8) && (decide (0 < t.frames.length) || !decide (t.state = 0)) && inR t.state 0 5 && inR t.made 0 15)

def objAt (os : List Object) (id : Int) : Int := fidx (fun o => decide (o.id = id)) os 0
def readAt (os : List Object) (id k : Int) : Val × Bool := if objAt os id < 0 then (⟨false, 0⟩, false) else match os[(objAt os id).toNat]? with | some o => (if inR k 0 ((o.fields.length : Int) - 1) = true then (match o.fields[k.toNat]? with | some v => (v, true) | none => (⟨false, 0⟩, false)) else (⟨false, 0⟩, false)) | none => (⟨false, 0⟩, false)
theorem objAt_range (os : List Object) (id : Int) : objAt os id = -1 ∨ ∃ j : Nat, j < os.length ∧ objAt os id = (j : Int) := by
  rcases fidx_range (fun o : Object => decide (o.id = id)) os 0 with h | ⟨j, h, e, _⟩
  · exact .inl h
  · exact .inr ⟨j, h, by unfold objAt; rw [e]; simp⟩
def typedAt (vs : List Val) (fs : List Field) (i : Nat) : Bool := match vs[i]?, fs[i]? with | some v, some f => v.ref == !decide (f.type = ⟨#[73]⟩) | _, _ => false
theorem typedAt_get {vs : List Val} {fs : List Field} {i : Nat} (h : i < vs.length) (h2 : i < fs.length) : typedAt vs fs i = (vs[i].ref == !decide (fs[i].type = ⟨#[73]⟩)) := by simp [typedAt, h, h2]
def valuesOk (p : List Kind) (k : Int) (vs : List Val) : Bool := inR k 0 ((p.length : Int) - 1) && (match p[k.toNat]? with | some q => decide (vs.length = q.fields.length) && (valsOk vs && allN (typedAt vs q.fields) vs.length 0) | none => false)
theorem allN_and (f g : Nat → Bool) : ∀ n i, allN (fun i => f i && g i) n i = (allN f n i && allN g n i)
  | 0, _ => rfl
  | n + 1, i => by
    simp only [allN, allN_and f g n (i + 1)]
    cases f i <;> cases g i <;> simp
def objOk (p : List Kind) (o : Object) : Bool := inR o.id 1 1000000 && valuesOk p o.cls o.fields

def upAt {α : Type} (g : α → Int) (xs : List α) (i : Nat) : Bool := if 0 < i then (match xs[i - 1]?, xs[i]? with | some a, some b => decide (g a < g b) | _, _ => false) else true
theorem upAt_pos {α : Type} (g : α → Int) {xs : List α} {i : Nat} (h : 0 < i) (h1 : i - 1 < xs.length) (h2 : i < xs.length) : upAt g xs i = decide (g xs[i - 1] < g xs[i]) := by simp [upAt, h, h1, h2]
theorem upAt_zero {α : Type} (g : α → Int) (xs : List α) {i : Nat} (h : ¬ 0 < i) : upAt g xs i = true := by simp [upAt, h]
theorem sm_Val (x : Val) : sm x := by
  simp only [sm, Val.cells, wtL, T.wt, valWt]; omega
def lockOk (os : List Object) (l : Lock) : Bool := !decide (objAt os l.id < 0) && inR l.who 1 1000000 && inR l.count 1 1000
def memOk (p : List Kind) (os : List Object) (ls : List Lock) : Bool := allN (fun i => lk os i (objOk p) && upAt (fun o => o.id) os i) os.length 0 && allN (fun i => lk ls i (lockOk os) && upAt (fun o => o.id) ls i) ls.length 0


theorem wsum_wt {α : Type} [Enc α] (c : α → Nat) (h : ∀ x, c x ≤ 9 * wtL (Enc.cells false x)) : ∀ xs : List α, wsum c xs ≤ 9 * wtLL (xs.map (Enc.cells false))
  | [] => by simp [wsum, wtLL]
  | x :: xs => by
    have := wsum_wt c h xs
    have := h x
    simp only [wsum, List.map_cons, List.sum_cons, wtLL] at *
    omega
def Stamp.mc (_ : Stamp) : Nat := 2
def Stamp.mk_ (k : Int) (_ : Stamp) : Stamp := ⟨k, k + 1⟩
theorem Stamp.mc_le (x : Stamp) : Stamp.mc x ≤ 9 * wtL (Enc.cells false x) := by
  simp only [Stamp.mc, Stamp.cells, wtL, T.wt, valWt, tl]
  omega
def Val.mc (_ : Val) : Nat := 2
def Val.mk_ (k : Int) (_ : Val) : Val := ⟨decide (Int.tmod (k) 3 = 0), k + 1⟩
theorem Val.mc_le (x : Val) : Val.mc x ≤ 9 * wtL (Enc.cells false x) := by
  simp only [Val.mc, Val.cells, wtL, T.wt, valWt, tl]
  omega
def Lock.mc (_ : Lock) : Nat := 3
def Lock.mk_ (k : Int) (_ : Lock) : Lock := ⟨k, k + 1, k + 2⟩
theorem Lock.mc_le (x : Lock) : Lock.mc x ≤ 9 * wtL (Enc.cells false x) := by
  simp only [Lock.mc, Lock.cells, wtL, T.wt, valWt, tl]
  omega
def Frame.mc (x : Frame) : Nat := 3 + wsum Val.mc x.locals + wsum Val.mc x.stack
def Frame.mk_ (k : Int) (x : Frame) : Frame := ⟨k, k + 1, k + 2, marks Val.mk_ Val.mc (k + 3) x.locals, marks Val.mk_ Val.mc (k + 3 + (wsum Val.mc x.locals : Nat)) x.stack⟩
theorem Frame.mc_le (x : Frame) : Frame.mc x ≤ 9 * wtL (Enc.cells false x) := by
  simp only [Frame.mc, Frame.cells, wtL, T.wt, valWt, tl]
  have := wsum_wt Val.mc Val.mc_le x.locals
  have := wsum_wt Val.mc Val.mc_le x.stack
  omega
def Object.mc (x : Object) : Nat := 2 + wsum Val.mc x.fields
def Object.mk_ (k : Int) (x : Object) : Object := ⟨k, k + 1, marks Val.mk_ Val.mc (k + 2) x.fields⟩
theorem Object.mc_le (x : Object) : Object.mc x ≤ 9 * wtL (Enc.cells false x) := by
  simp only [Object.mc, Object.cells, wtL, T.wt, valWt, tl]
  have := wsum_wt Val.mc Val.mc_le x.fields
  omega
def Typ.mc (_ : Typ) : Nat := 2
def Typ.mk_ (k : Int) (_ : Typ) : Typ := ⟨k, k + 1⟩
theorem Typ.mc_le (x : Typ) : Typ.mc x ≤ 9 * wtL (Enc.cells false x) := by
  simp only [Typ.mc, Typ.cells, wtL, T.wt, valWt, tl]
  omega
set_option maxHeartbeats 2000000 in
theorem laws_markValS_ok (xs : List Val) (k : Int) (hk : 0 ≤ k ∧ k + (wsum Val.mc xs : Nat) ≤ 4000000000000000000) (h : sml xs) : lret Γ n_laws_markValS [.r (0, 0) [] 2 0 xs.length, ai k] (hnew (fun _ => none) (0, 0) (tl true xs)) [.o (.v (.int .i64 (k + (wsum Val.mc xs : Nat))))] [some (tl true (marks Val.mk_ Val.mc k xs))] := by
  refine lret_of g_laws_markValS ?_
  have hM := marks_len Val.mk_ Val.mc k xs
  have hl := sml_len h
  simp [a_laws_markValS, c_laws_markValS]
  refine loop_ind (ι := Nat) (fun i => hdm [(0, .r (0, 0) [] 2 0 xs.length), (1, ai (k + (wsum Val.mc (xs.take i) : Nat))), (5, ai i)] (tl true (mfill (marks Val.mk_ Val.mc k xs) xs i))) (fun i => xs.length - i) (fun i => i ≤ xs.length) ?_ 0 (Nat.zero_le _) _ ?_
  · intro i hi ih
    by_cases hlt : i < xs.length
    · have hg := mfill_get hM hlt
      have hw := wsum_take Val.mc xs hlt
      have hle := wsum_le Val.mc xs (i + 1)
      have hsx := sml_get h hlt
      generalize hQ : k + (wsum Val.mc (xs.take i) : Nat) = q
      have hq : 0 ≤ q ∧ q + (Val.mc xs[i] : Nat) ≤ 4000000000000000000 := by omega
      have hq2 : k + (wsum Val.mc (xs.take (i + 1)) : Nat) = q + (Val.mc xs[i] : Nat) := by omega
      have hset : ((mfill (marks Val.mk_ Val.mc k xs) xs i).map (Enc.cells true)).set i (Enc.cells true (Val.mk_ q xs[i])) = (mfill (marks Val.mk_ Val.mc k xs) xs (i + 1)).map (Enc.cells true) := by
        rw [← mfill_set hM hlt, List.map_set, marks_get Val.mk_ Val.mc xs k hlt, hQ]
      have hgs : ∀ r, (((mfill (marks Val.mk_ Val.mc k xs) xs i).map (Enc.cells true)).set i r)[i]? = some r := fun r => List.getElem?_set_self (by rw [List.length_map, mfill_len hM]; exact hlt)
      simp only [Val.mc] at hq hq2
      simp [Val.mk_] at hset
      have w1 : IntKind.i64.wrap (q + 1) = q + 1 := by rw [wrap_id (by omega) (by omega)] <;> omega
      have w2 : IntKind.i64.wrap (q + 1 + 1) = q + 2 := by rw [wrap_id (by omega) (by omega)] <;> omega
      have hq3 : k + (wsum Val.mc (xs.take (i + 1)) : Nat) = q + 2 := by omega
      simp [hlt, hg, hgs, w1, w2]
      refine ih (i + 1) (by omega) (by omega) _ ?_
      simp [wrap_nat (i := i) (by omega), hq3, hset]
      refine ch_ext fun j hj => ?_
      by_cases h0 : j = 0 <;> simp [lentOf, hj, lent1, h0]
    · obtain rfl : i = xs.length := by omega
      simp [mfill_all hM]
  · simp [mfill_0, wsum]
    refine ch_ext fun j hj => ?_
    by_cases h0 : j = 0 <;> simp [lentOf, hj, lent1, h0, hnew, CAN]
set_option maxHeartbeats 2000000 in
theorem laws_heldValS_ok (xs : List Val) (k : Int) (hk : 0 ≤ k ∧ k + (wsum Val.mc xs : Nat) ≤ 4000000000000000000) (h : sml xs) : ret Γ n_laws_heldValS [al (marks Val.mk_ Val.mc k xs), ai k] = some [.o (.v (.int .i64 (k + (wsum Val.mc xs : Nat))))] := by
  refine ret_of g_laws_heldValS ?_
  have hM := marks_len Val.mk_ Val.mc k xs
  have hl := sml_len h
  simp [a_laws_heldValS, c_laws_heldValS]
  refine loop_ind (ι := Nat) (fun i => hd0 [(0, al (marks Val.mk_ Val.mc k xs)), (1, ai (k + (wsum Val.mc (xs.take i) : Nat))), (5, ai i)]) (fun i => xs.length - i) (fun i => i ≤ xs.length) ?_ 0 (Nat.zero_le _) _ ?_
  · intro i hi ih
    by_cases hlt : i < xs.length
    · have hg : (marks Val.mk_ Val.mc k xs)[i]? = some (Val.mk_ (k + (wsum Val.mc (xs.take i) : Nat)) xs[i]) := by rw [List.getElem?_eq_getElem (by rw [hM]; exact hlt), marks_get Val.mk_ Val.mc xs k hlt]
      have hgE : ∀ p, (marks Val.mk_ Val.mc k xs)[i]'p = Val.mk_ (k + (wsum Val.mc (xs.take i) : Nat)) xs[i] := fun p => marks_get Val.mk_ Val.mc xs k hlt
      have hw := wsum_take Val.mc xs hlt
      have hle := wsum_le Val.mc xs (i + 1)
      have hsx := sml_get h hlt
      generalize hQ : k + (wsum Val.mc (xs.take i) : Nat) = q at hg hgE ⊢
      have hq : 0 ≤ q ∧ q + (Val.mc xs[i] : Nat) ≤ 4000000000000000000 := by omega
      have hq2 : k + (wsum Val.mc (xs.take (i + 1)) : Nat) = q + (Val.mc xs[i] : Nat) := by omega
      simp only [Val.mc] at hq hq2
      have w1 : IntKind.i64.wrap (q + 1) = q + 1 := by rw [wrap_id (by omega) (by omega)] <;> omega
      have w2 : IntKind.i64.wrap (q + 1 + 1) = q + 2 := by rw [wrap_id (by omega) (by omega)] <;> omega
      have hq3 : k + (wsum Val.mc (xs.take (i + 1)) : Nat) = q + 2 := by omega
      simp [hlt, hM, hg, hgE, Val.mk_, w1, w2]
      refine ih (i + 1) (by omega) (by omega) _ ?_
      simp [wrap_nat (i := i) (by omega), hq3]
    · obtain rfl : i = xs.length := by omega
      simp [hM]
  · simp [wsum]
set_option maxHeartbeats 2000000 in
theorem laws_markFrameS_ok (xs : List Frame) (k : Int) (hk : 0 ≤ k ∧ k + (wsum Frame.mc xs : Nat) ≤ 4000000000000000000) (h : sml xs) : lret Γ n_laws_markFrameS [.r (0, 0) [] 5 0 xs.length, ai k] (hnew (fun _ => none) (0, 0) (tl true xs)) [.o (.v (.int .i64 (k + (wsum Frame.mc xs : Nat))))] [some (tl true (marks Frame.mk_ Frame.mc k xs))] := by
  refine lret_of g_laws_markFrameS ?_
  have hM := marks_len Frame.mk_ Frame.mc k xs
  have hl := sml_len h
  simp [a_laws_markFrameS, c_laws_markFrameS]
  refine loop_ind (ι := Nat) (fun i => hdm [(0, .r (0, 0) [] 5 0 xs.length), (1, ai (k + (wsum Frame.mc (xs.take i) : Nat))), (5, ai i)] (tl true (mfill (marks Frame.mk_ Frame.mc k xs) xs i))) (fun i => xs.length - i) (fun i => i ≤ xs.length) ?_ 0 (Nat.zero_le _) _ ?_
  · intro i hi ih
    by_cases hlt : i < xs.length
    · have hg := mfill_get hM hlt
      have hw := wsum_take Frame.mc xs hlt
      have hle := wsum_le Frame.mc xs (i + 1)
      have hsx := sml_get h hlt
      generalize hQ : k + (wsum Frame.mc (xs.take i) : Nat) = q
      have hq : 0 ≤ q ∧ q + (Frame.mc xs[i] : Nat) ≤ 4000000000000000000 := by omega
      have hq2 : k + (wsum Frame.mc (xs.take (i + 1)) : Nat) = q + (Frame.mc xs[i] : Nat) := by omega
      have hset : ((mfill (marks Frame.mk_ Frame.mc k xs) xs i).map (Enc.cells true)).set i (Enc.cells true (Frame.mk_ q xs[i])) = (mfill (marks Frame.mk_ Frame.mc k xs) xs (i + 1)).map (Enc.cells true) := by
        rw [← mfill_set hM hlt, List.map_set, marks_get Frame.mk_ Frame.mc xs k hlt, hQ]
      have hgs : ∀ r, (((mfill (marks Frame.mk_ Frame.mc k xs) xs i).map (Enc.cells true)).set i r)[i]? = some r := fun r => List.getElem?_set_self (by rw [List.length_map, mfill_len hM]; exact hlt)
      simp only [Frame.mc] at hq hq2
      simp [Frame.mk_] at hset
      have w1 : IntKind.i64.wrap (q + 1) = q + 1 := by rw [wrap_id (by omega) (by omega)] <;> omega
      have w2 : IntKind.i64.wrap (q + 1 + 1) = q + 2 := by rw [wrap_id (by omega) (by omega)] <;> omega
      have w3 : IntKind.i64.wrap (q + 2 + 1) = q + 3 := by rw [wrap_id (by omega) (by omega)] <;> omega
      obtain ⟨hc1, e1, f1⟩ := laws_markValS_ok xs[i].locals (q + 3) ⟨by omega, by omega⟩ (by have := hsx; simp only [sm, Frame.cells, wtL, T.wt, valWt, tl] at this; simp only [sml]; omega)
      replace f1 := f1 0 (by simp)
      simp at e1 f1
      obtain ⟨hc2, e2, f2⟩ := laws_markValS_ok xs[i].stack (q + 3 + (wsum Val.mc xs[i].locals : Nat)) ⟨by omega, by omega⟩ (by have := hsx; simp only [sm, Frame.cells, wtL, T.wt, valWt, tl] at this; simp only [sml]; omega)
      replace f2 := f2 0 (by simp)
      simp at e2 f2
      have hq3 : k + (wsum Frame.mc (xs.take (i + 1)) : Nat) = q + 3 + (wsum Val.mc xs[i].locals : Nat) + (wsum Val.mc xs[i].stack : Nat) := by omega
      simp [hlt, hg, hgs, w1, w2, w3, e1, f1, e2, f2]
      refine ih (i + 1) (by omega) (by omega) _ ?_
      simp [wrap_nat (i := i) (by omega), hq3, hset]
      refine ch_ext fun j hj => ?_
      by_cases h0 : j = 0 <;> simp [lentOf, hj, lent1, h0]
    · obtain rfl : i = xs.length := by omega
      simp [mfill_all hM]
  · simp [mfill_0, wsum]
    refine ch_ext fun j hj => ?_
    by_cases h0 : j = 0 <;> simp [lentOf, hj, lent1, h0, hnew, CAN]
set_option maxHeartbeats 2000000 in
theorem laws_heldFrameS_ok (xs : List Frame) (k : Int) (hk : 0 ≤ k ∧ k + (wsum Frame.mc xs : Nat) ≤ 4000000000000000000) (h : sml xs) : ret Γ n_laws_heldFrameS [al (marks Frame.mk_ Frame.mc k xs), ai k] = some [.o (.v (.int .i64 (k + (wsum Frame.mc xs : Nat))))] := by
  refine ret_of g_laws_heldFrameS ?_
  have hM := marks_len Frame.mk_ Frame.mc k xs
  have hl := sml_len h
  simp [a_laws_heldFrameS, c_laws_heldFrameS]
  refine loop_ind (ι := Nat) (fun i => hd0 [(0, al (marks Frame.mk_ Frame.mc k xs)), (1, ai (k + (wsum Frame.mc (xs.take i) : Nat))), (5, ai i)]) (fun i => xs.length - i) (fun i => i ≤ xs.length) ?_ 0 (Nat.zero_le _) _ ?_
  · intro i hi ih
    by_cases hlt : i < xs.length
    · have hg : (marks Frame.mk_ Frame.mc k xs)[i]? = some (Frame.mk_ (k + (wsum Frame.mc (xs.take i) : Nat)) xs[i]) := by rw [List.getElem?_eq_getElem (by rw [hM]; exact hlt), marks_get Frame.mk_ Frame.mc xs k hlt]
      have hgE : ∀ p, (marks Frame.mk_ Frame.mc k xs)[i]'p = Frame.mk_ (k + (wsum Frame.mc (xs.take i) : Nat)) xs[i] := fun p => marks_get Frame.mk_ Frame.mc xs k hlt
      have hw := wsum_take Frame.mc xs hlt
      have hle := wsum_le Frame.mc xs (i + 1)
      have hsx := sml_get h hlt
      generalize hQ : k + (wsum Frame.mc (xs.take i) : Nat) = q at hg hgE ⊢
      have hq : 0 ≤ q ∧ q + (Frame.mc xs[i] : Nat) ≤ 4000000000000000000 := by omega
      have hq2 : k + (wsum Frame.mc (xs.take (i + 1)) : Nat) = q + (Frame.mc xs[i] : Nat) := by omega
      simp only [Frame.mc] at hq hq2
      have w1 : IntKind.i64.wrap (q + 1) = q + 1 := by rw [wrap_id (by omega) (by omega)] <;> omega
      have w2 : IntKind.i64.wrap (q + 1 + 1) = q + 2 := by rw [wrap_id (by omega) (by omega)] <;> omega
      have w3 : IntKind.i64.wrap (q + 2 + 1) = q + 3 := by rw [wrap_id (by omega) (by omega)] <;> omega
      have e1 := laws_heldValS_ok xs[i].locals (q + 3) ⟨by omega, by omega⟩ (by have := hsx; simp only [sm, Frame.cells, wtL, T.wt, valWt, tl] at this; simp only [sml]; omega)
      have g1 : ¬ q + 3 + (wsum Val.mc xs[i].locals : Nat) < 0 := by omega
      simp at e1
      have e2 := laws_heldValS_ok xs[i].stack (q + 3 + (wsum Val.mc xs[i].locals : Nat)) ⟨by omega, by omega⟩ (by have := hsx; simp only [sm, Frame.cells, wtL, T.wt, valWt, tl] at this; simp only [sml]; omega)
      have g2 : ¬ q + 3 + (wsum Val.mc xs[i].locals : Nat) + (wsum Val.mc xs[i].stack : Nat) < 0 := by omega
      simp at e2
      have hq3 : k + (wsum Frame.mc (xs.take (i + 1)) : Nat) = q + 3 + (wsum Val.mc xs[i].locals : Nat) + (wsum Val.mc xs[i].stack : Nat) := by omega
      simp [hlt, hM, hg, hgE, Frame.mk_, w1, w2, w3, e1, g1, e2, g2]
      refine ih (i + 1) (by omega) (by omega) _ ?_
      simp [wrap_nat (i := i) (by omega), hq3]
    · obtain rfl : i = xs.length := by omega
      simp [hM]
  · simp [wsum]

def merge : List Stamp → List Stamp → List Stamp
  | [], bs => bs
  | a :: as, [] => a :: as
  | a :: as, b :: bs => if a.who < b.who then a :: merge as (b :: bs) else if b.who < a.who then b :: merge (a :: as) bs else ⟨a.who, if b.n > a.n then b.n else a.n⟩ :: merge as bs
termination_by as bs => as.length + bs.length
theorem merge_nil (bs : List Stamp) : merge [] bs = bs := by simp [merge]
theorem merge_nil2 (as : List Stamp) : merge as [] = as := by cases as <;> simp [merge]
theorem merge_cons (a b : Stamp) (as bs : List Stamp) : merge (a :: as) (b :: bs) = if a.who < b.who then a :: merge as (b :: bs) else if b.who < a.who then b :: merge (a :: as) bs else ⟨a.who, if b.n > a.n then b.n else a.n⟩ :: merge as bs := by rw [merge]

def join2 (a b : List Stamp) : List Stamp := if (clockOk a && clockOk b) = true then merge a b else []
def tick (a : List Stamp) (who : Int) : List Stamp := if (clockOk a && inR who 1 1000000 && decide (count who a < 16777215)) = true then merge a [⟨who, IntKind.i64.wrap (count who a + 1)⟩] else a

theorem stamp_wt : ∀ xs : List Stamp, wtLL (xs.map (Enc.cells false)) ≤ 10 * xs.length
  | [] => by simp [wtLL]
  | x :: xs => by
    have := stamp_wt xs
    simp only [List.map_cons, wtLL, Stamp.cells, wtL, T.wt, valWt, List.length_cons] at *
    omega
theorem stamp_sml {xs : List Stamp} (h : xs.length ≤ 50000000) : sml xs := by
  have := stamp_wt xs
  unfold sml
  omega
theorem merge_len : ∀ (n : Nat) (a b : List Stamp), a.length + b.length ≤ n → (merge a b).length ≤ a.length + b.length
  | _, [], b, _ => by rw [merge_nil]; simp
  | _, _ :: _, [], _ => by rw [merge_nil2]; simp
  | 0, _ :: _, _ :: _, h => by simp at h
  | n + 1, a :: as, b :: bs, h => by
    simp only [List.length_cons] at h
    rw [merge_cons]
    by_cases h1 : a.who < b.who
    · have := merge_len n as (b :: bs) (by simp only [List.length_cons]; omega)
      simp only [h1, if_true, List.length_cons] at *
      omega
    by_cases h2 : b.who < a.who
    · have := merge_len n (a :: as) bs (by simp only [List.length_cons]; omega)
      simp only [h1, h2, if_true, if_false, List.length_cons] at *
      omega
    have := merge_len n as bs (by omega)
    simp only [h1, h2, if_false, List.length_cons] at *
    omega
theorem join2_len (a b : List Stamp) : (join2 a b).length ≤ a.length + b.length := by
  unfold join2
  split
  · exact merge_len _ a b (Nat.le_refl _)
  · simp
theorem tick_len (a : List Stamp) (who : Int) : (tick a who).length ≤ a.length + 1 := by
  unfold tick
  split
  · exact merge_len _ a _ (Nat.le_refl _)
  · simp
theorem stamp_ms (xs : List Stamp) : wsum Stamp.mc xs = 2 * xs.length := by
  induction xs with
  | nil => rfl
  | cons x xs ih => simp only [wsum, List.map_cons, List.sum_cons, Stamp.mc, List.length_cons] at *; omega


def Thread.mcv (x : Thread) : Nat := wsum Frame.mc x.frames
def Thread.mkv (k : Int) (x : Thread) : Thread := { x with frames := marks Frame.mk_ Frame.mc (k) x.frames }
theorem Thread.mcv_le (x : Thread) : Thread.mcv x ≤ 9 * wtL (Enc.cells false x) := by
  simp only [Thread.mcv, Thread.cells, wtL, T.wt, valWt, tl]
  have := wsum_wt Frame.mc Frame.mc_le x.frames
  omega
set_option maxHeartbeats 2000000 in
theorem laws_markThread_ok (x : Thread) (k : Int) (hk : 0 ≤ k ∧ k + (Thread.mcv x : Nat) ≤ 4000000000000000000) (h : sm x) : lret Γ n_laws_markThread [.a [ai x.id, .r (0, 0) [] 5 0 x.frames.length, ai x.state, ai x.made], ai k] (hnew (fun _ => none) (0, 0) (tl true x.frames)) [.o (.v (.int .i64 (k + (wsum Frame.mc x.frames : Nat))))] [some (tl true (marks Frame.mk_ Frame.mc (k) x.frames))] := by
  simp only [sm, Thread.cells, wtL, T.wt, valWt, tl] at h
  simp only [Thread.mcv] at hk
  obtain ⟨hc0, e0, f0⟩ := laws_markFrameS_ok x.frames (k) ⟨by omega, by omega⟩ (by simp only [sml]; omega)
  replace f0 := f0 0 (by simp)
  simp at e0 f0
  refine lret_of g_laws_markThread ?_
  simp [a_laws_markThread, c_laws_markThread, e0, f0]
theorem laws_heldThread_ok (x : Thread) (k : Int) (hk : 0 ≤ k ∧ k + (Thread.mcv x : Nat) ≤ 4000000000000000000) (h : sm x) : ret Γ n_laws_heldThread [ag (Thread.mkv k x), ai k] = some [.o (.v (.int .i64 (k + (wsum Frame.mc x.frames : Nat))))] := by
  simp only [sm, Thread.cells, wtL, T.wt, valWt, tl] at h
  simp only [Thread.mcv] at hk
  have e0 := laws_heldFrameS_ok x.frames (k) ⟨by omega, by omega⟩ (by simp only [sml]; omega)
  have g0 : ¬ k + (wsum Frame.mc x.frames : Nat) < 0 := by omega
  simp at e0
  refine ret_of g_laws_heldThread ?_
  simp [a_laws_heldThread, c_laws_heldThread, Thread.mkv, e0, g0]
def Memory.mcv (x : Memory) : Nat := wsum Object.mc x.objects + wsum Lock.mc x.locks
def Memory.mkv (k : Int) (x : Memory) : Memory := { x with objects := marks Object.mk_ Object.mc (k) x.objects, locks := marks Lock.mk_ Lock.mc (k + (wsum Object.mc x.objects : Nat)) x.locks }
theorem Memory.mcv_le (x : Memory) : Memory.mcv x ≤ 9 * wtL (Enc.cells false x) := by
  simp only [Memory.mcv, Memory.cells, wtL, T.wt, valWt, tl]
  have := wsum_wt Object.mc Object.mc_le x.objects
  have := wsum_wt Lock.mc Lock.mc_le x.locks
  omega
def Object.mcv (x : Object) : Nat := wsum Val.mc x.fields
def Object.mkv (k : Int) (x : Object) : Object := { x with fields := marks Val.mk_ Val.mc (k) x.fields }
theorem Object.mcv_le (x : Object) : Object.mcv x ≤ 9 * wtL (Enc.cells false x) := by
  simp only [Object.mcv, Object.cells, wtL, T.wt, valWt, tl]
  have := wsum_wt Val.mc Val.mc_le x.fields
  omega

/-- A list that is built by appending, nil at first: its slot and its place. -/
def appS {α : Type} (sz : Nat) : List α → SV
  | [] => .c (.l true sz [])
  | x :: xs => .r (0, 1000000) [] sz 0 (xs.length + 1)
def appL {α : Type} [Enc α] : List α → List T
  | [] => []
  | x :: xs => [tl true (x :: xs)]
@[simp] theorem appS_nil {α : Type} (sz : Nat) : appS sz ([] : List α) = .c (.l true sz []) := rfl
@[simp] theorem appS_cons {α : Type} (sz : Nat) (x : α) (xs : List α) : appS sz (x :: xs) = .r (0, 1000000) [] sz 0 (xs.length + 1) := rfl
@[simp] theorem appL_nil {α : Type} [Enc α] : appL ([] : List α) = [] := rfl
@[simp] theorem appL_cons {α : Type} [Enc α] (x : α) (xs : List α) : appL (x :: xs) = [tl true (x :: xs)] := rfl
theorem val_ft (xs : List Val) : List.map (Enc.cells false) xs = List.map (Enc.cells true) xs := rfl
theorem impl_copyVals_ok (a : List Val) (ha : a.length ≤ 1000000000) : ret Γ n_impl_copyVals [al a] = some [.o (tl true a)] := by
  refine ret_of g_impl_copyVals ?_
  have hlim : a.length * 3 ≤ 1099511627776 := by omega
  simp [a_impl_copyVals, c_impl_copyVals, LIM, hlim]
set_option maxHeartbeats 2000000 in
theorem impl_copyThread_ok (t : Thread) (h : sm t) : ret Γ n_impl_copyThread [ag t] = some [.a (Enc.cells true t)] := by
  have hfs := sm_Thread h
  have hl := sml_len hfs
  refine ret_of g_impl_copyThread ?_
  simp [a_impl_copyThread, c_impl_copyThread]
  refine loop_ind (ι := Nat × List Frame) (fun x => hdb [(2, .b (0, 1000000) 0), (3, .b (1, 1000000) 0), (14, al t.frames), (15, ai t.frames.length), (16, ai x.1)] [[ai 0, .c (.l true 5 []), ai 0, ai 0], [ai t.id, appS 5 x.2, ai t.state, ai t.made]] (appL x.2)) (fun x => t.frames.length - x.1) (fun x => x.1 ≤ t.frames.length ∧ x.2.length = x.1 ∧ x.2 ++ t.frames.drop x.1 = t.frames) ?_ (0, []) ?_ _ ?_
  · rintro ⟨i, out⟩ ⟨hi, ho, hc⟩ ih
    simp only at hi ho hc
    by_cases hlt : i < t.frames.length
    · have e1 := impl_copyVals_ok t.frames[i].locals (sml_len (sm_Frame (sml_get hfs hlt)).1)
      have e2 := impl_copyVals_ok t.frames[i].stack (sml_len (sm_Frame (sml_get hfs hlt)).2)
      simp at e1 e2
      rw [List.drop_eq_getElem_cons hlt] at hc
      have hnx := ih (i + 1, out ++ [t.frames[i]]) (by simp only; omega) ⟨by simp only; omega, by simp [ho], by simpa using hc⟩
      rcases out with _ | ⟨x, out⟩
      · simp [hlt, e1, e2, LIM]
        refine hnx _ ?_
        simp [wrap_nat (i := i) (by omega)]
      · have hlim : (out.length + 1 + 1) * 6 ≤ 1099511627776 := by simp only [List.length_cons] at ho; omega
        simp [hlt, e1, e2, LIM, hlim]
        refine hnx _ ?_
        simp [wrap_nat (i := i) (by omega)]
    · have hc2 : out = t.frames := by
        rw [List.drop_eq_nil_of_le (by omega), List.append_nil] at hc
        exact hc
      have hi2 : i = t.frames.length := by omega
      subst hi2
      obtain ⟨id, fs, st, md⟩ := t
      simp only at hc2 ho
      subst hc2
      rcases out with _ | ⟨x, out⟩ <;> simp
  · exact ⟨Nat.zero_le _, rfl, by simp⟩
  · simp
set_option maxHeartbeats 2000000 in
theorem spec_l14Copy_ok (t : Thread) (h : sm t) : ret Γ n_spec_l14Copy [ag t] = some [.a (Enc.cells true t)] := by
  have hfs := sm_Thread h
  have hl := sml_len hfs
  refine ret_of g_spec_l14Copy ?_
  simp [a_spec_l14Copy, c_spec_l14Copy]
  refine loop_ind (ι := Nat × List Frame) (fun x => hdb [(1, .b (0, 1000000) 0), (2, .b (1, 1000000) 0), (3, .b (2, 1000000) 0), (4, ai x.1)] [[ai t.id, al t.frames, ai t.state, ai t.made], [ai 0, .c (.l true 5 []), ai 0, ai 0], [ai t.id, appS 5 x.2, ai t.state, ai t.made]] (appL x.2)) (fun x => t.frames.length - x.1) (fun x => x.1 ≤ t.frames.length ∧ x.2.length = x.1 ∧ x.2 ++ t.frames.drop x.1 = t.frames) ?_ (0, []) ?_ _ ?_
  · rintro ⟨i, out⟩ ⟨hi, ho, hc⟩ ih
    simp only at hi ho hc
    by_cases hlt : i < t.frames.length
    · have k1 : t.frames[i].locals.length * 3 ≤ 1099511627776 := by have := sml_len (sm_Frame (sml_get hfs hlt)).1; omega
      have k2 : t.frames[i].stack.length * 3 ≤ 1099511627776 := by have := sml_len (sm_Frame (sml_get hfs hlt)).2; omega
      rw [List.drop_eq_getElem_cons hlt] at hc
      have hnx := ih (i + 1, out ++ [t.frames[i]]) (by simp only; omega) ⟨by simp only; omega, by simp [ho], by simpa using hc⟩
      rcases out with _ | ⟨x, out⟩
      · simp [hlt, k1, k2, LIM]
        refine hnx _ ?_
        simp [wrap_nat (i := i) (by omega), val_ft]
      · have hlim : (out.length + 1 + 1) * 6 ≤ 1099511627776 := by simp only [List.length_cons] at ho; omega
        simp [hlt, k1, k2, LIM, hlim]
        refine hnx _ ?_
        simp [wrap_nat (i := i) (by omega), val_ft]
    · have hc2 : out = t.frames := by
        rw [List.drop_eq_nil_of_le (by omega), List.append_nil] at hc
        exact hc
      have hi2 : i = t.frames.length := by omega
      subst hi2
      obtain ⟨id, fs, st, md⟩ := t
      simp only at hc2 ho
      subst hc2
      rcases out with _ | ⟨x, out⟩ <;> simp
  · exact ⟨Nat.zero_le _, rfl, by simp⟩
  · simp

theorem set_modify {β : Type} (F : β → β) (r : β) : ∀ (xs : List β) (i : Nat), (xs.modify i F).set i r = xs.set i r
  | [], _ => by simp
  | _ :: _, 0 => by simp
  | x :: xs, i + 1 => by simp [set_modify F r xs i]
def give (t : Thread) (v : Val) : Thread := match t.frames[t.frames.length - 1]? with
  | some f => if f.stack.length < 6 then { t with frames := t.frames.set (t.frames.length - 1) { f with stack := f.stack ++ [v] } } else t
  | none => t
set_option maxHeartbeats 2000000 in
theorem impl_Give_ok (t : Thread) (v : Val) (h : sm t) : ret Γ n_impl_Give [ag t, ag v] = some [.a (Enc.cells true (give t v))] := by
  have hl := sml_len (sm_Thread h)
  have e1 := impl_copyThread_ok t h
  simp at e1
  refine ret_of g_impl_Give ?_
  by_cases h0 : 0 < t.frames.length
  rotate_left
  · have h1 : t.frames = [] := List.length_eq_zero_iff.1 (by omega)
    simp [h1] at e1
    simp [a_impl_Give, c_impl_Give, e1, h1, give]
  have hn : t.frames.length - 1 < t.frames.length := by omega
  have w1 : IntKind.i64.wrap ((t.frames.length : Int) - 1) = ((t.frames.length - 1 : Nat) : Int) := by rw [wrap_id (by omega) (by omega)]; omega
  have hg : give t v = if t.frames[t.frames.length - 1].stack.length < 6 then { t with frames := t.frames.set (t.frames.length - 1) { t.frames[t.frames.length - 1] with stack := t.frames[t.frames.length - 1].stack ++ [v] } } else t := by simp [give, hn]
  rw [hg]
  generalize hN : t.frames.length - 1 = n at *
  by_cases h6 : t.frames[n].stack.length < 6
  · have h6a : (t.frames[n].stack.length : Int) < 6 := by omega
    have hlim : (t.frames[n].stack.length + 1) * 3 ≤ 1099511627776 := by omega
    simp [a_impl_Give, c_impl_Give, e1, h0, hn, w1, h6, h6a, LIM, hlim]
    rw [set_modify, List.take_of_length_le (by simp), List.take_of_length_le (by simp)]
  · have h6a : ¬ (t.frames[n].stack.length : Int) < 6 := by omega
    simp [a_impl_Give, c_impl_Give, e1, h0, hn, w1, h6, h6a]


set_option maxHeartbeats 2000000 in
theorem spec_l14Put_ok (t : Thread) (v : Val) (h : sm t) : lret Γ n_spec_l14Put [.a [ai t.id, .r (0, 0) [] 5 0 t.frames.length, ai t.state, ai t.made], ag v] (hnew (fun _ => none) (0, 0) (tl true t.frames)) [.a (Enc.cells true (give t v))] [some .u] := by
  have hl := sml_len (sm_Thread h)
  refine lret_of g_spec_l14Put ?_
  have w0 : IntKind.i64.wrap ((t.frames.length : Int) - 1) = (t.frames.length : Int) - 1 := wrap_id (by omega) (by omega)
  by_cases h0 : 0 < t.frames.length
  rotate_left
  · have h1 : t.frames = [] := List.length_eq_zero_iff.1 (by omega)
    have w1 : IntKind.i64.wrap (-1) = -1 := wrap_id (by omega) (by omega)
    simp [a_spec_l14Put, c_spec_l14Put, h1, give, w1]
  have hn : t.frames.length - 1 < t.frames.length := by omega
  have w1 : IntKind.i64.wrap ((t.frames.length : Int) - 1) = ((t.frames.length - 1 : Nat) : Int) := by rw [wrap_id (by omega) (by omega)]; omega
  clear w0
  have hg : give t v = if t.frames[t.frames.length - 1].stack.length < 6 then { t with frames := t.frames.set (t.frames.length - 1) { t.frames[t.frames.length - 1] with stack := t.frames[t.frames.length - 1].stack ++ [v] } } else t := by simp [give, hn]
  rw [hg]
  generalize hN : t.frames.length - 1 = n at *
  by_cases h6 : t.frames[n].stack.length < 6
  · have h6a : (t.frames[n].stack.length : Int) < 6 := by omega
    have hlim : (t.frames[n].stack.length + 1) * 3 ≤ 1099511627776 := by omega
    simp [a_spec_l14Put, c_spec_l14Put, h0, hn, w1, h6, h6a, LIM, hlim]
    refine ⟨_, ⟨?_, rfl⟩, by simp⟩
    rw [set_modify, List.take_of_length_le (by simp), List.take_of_length_le (by simp)]
  · have h6a : ¬ (t.frames[n].stack.length : Int) < 6 := by omega
    simp [a_spec_l14Put, c_spec_l14Put, h0, hn, w1, h6, h6a]
theorem spec_Give_ok (t : Thread) (v : Val) (h : sm t) : ret Γ n_spec_Give [ag t, ag v] = some [.a (Enc.cells true (give t v))] := by
  have e1 := spec_l14Copy_ok t h
  obtain ⟨hc, e2, f2⟩ := spec_l14Put_ok t v h
  replace f2 := f2 0 (by simp)
  simp at e1 e2 f2
  refine ret_of g_spec_Give ?_
  simp [a_spec_Give, c_spec_Give, e1, e2, f2]

theorem wtLL_app : ∀ a b : List (List T), wtLL (a ++ b) = wtLL a + wtLL b
  | [], b => by simp [wtLL]
  | x :: a, b => by simp only [List.cons_append, wtLL, wtLL_app a b]; omega
theorem wt_set {α : Type} [Enc α] : ∀ (xs : List α) {i : Nat} (h : i < xs.length) (y : α), wtLL ((xs.set i y).map (Enc.cells false)) + wtL (Enc.cells false xs[i]) = wtLL (xs.map (Enc.cells false)) + wtL (Enc.cells false y)
  | [], i, h, _ => by simp at h
  | x :: xs, 0, _, y => by simp only [List.set_cons_zero, List.map_cons, wtLL, List.getElem_cons_zero]; omega
  | x :: xs, i + 1, h, y => by
    have := wt_set xs (i := i) (by simpa using h) y
    simp only [List.set_cons_succ, List.map_cons, wtLL, List.getElem_cons_succ]
    omega
theorem give_wt (t : Thread) (v : Val) : wtL (Enc.cells false (give t v)) ≤ wtL (Enc.cells false t) + 10 := by
  unfold give
  by_cases hn : t.frames.length - 1 < t.frames.length
  · simp only [List.getElem?_eq_getElem hn]
    split
    · have := wt_set t.frames hn { t.frames[t.frames.length - 1] with stack := t.frames[t.frames.length - 1].stack ++ [v] }
      simp only [Thread.cells, Frame.cells, wtL, T.wt, valWt, tl, List.map_append, wtLL_app, List.map_cons, List.map_nil, wtLL, Val.cells] at *
      omega
    · omega
  · rw [List.getElem?_eq_none (by omega)]
    simp
set_option maxHeartbeats 4000000 in
theorem laws_FnExactGive_ok (t : Thread) (v : Val) (ht : wtL (Enc.cells false t) ≤ 50000000) : ret Γ n_laws_FnExactGive [ag t, ag v] = some [.o (.v (.bool true))] := by
  have h_t : sm t := by unfold sm; omega
  have hl := give_wt t v
  have h_r : sm (give t v) := by unfold sm; omega
  have st := Thread.mcv_le t
  have sr := Thread.mcv_le (give t v)
  have to_t := laws_toThread_ok t h_t
  have to_v := laws_toVal_ok v (sm_Val v)
  have eq_t := laws_eqThread_ok t t h_t
  have eq_r := laws_eqThread_ok (give t v) (give t v) h_r
  have e1 := impl_Give_ok t v h_t
  have e2 := spec_Give_ok t v h_t
  generalize give t v = r at *
  have mt0 := laws_markThread_ok t 1 ⟨by omega, by omega⟩ h_t
  have mr0 := laws_markThread_ok r 1 ⟨by omega, by omega⟩ h_r
  have hr := laws_heldThread_ok r 1 ⟨by omega, by omega⟩ h_r
  obtain ⟨ct, mt, nt⟩ := mt0
  obtain ⟨cr, mr, nr⟩ := mr0
  replace nt := nt 0 (by simp)
  replace nr := nr 0 (by simp)
  have q1 : ¬ (1 : Int) + (wsum Frame.mc t.frames : Nat) < 0 := by omega
  have q2 : ¬ (1 : Int) + (wsum Frame.mc r.frames : Nat) < 0 := by omega
  have hm := marks_len Frame.mk_ Frame.mc 1 r.frames
  have htk : List.take r.frames.length (List.map (Enc.cells true) (marks Frame.mk_ Frame.mc 1 r.frames)) = List.map (Enc.cells true) (marks Frame.mk_ Frame.mc 1 r.frames) := by rw [← hm, take_map_len]
  refine ret_of g_laws_FnExactGive ?_
  simp [Thread.mkv] at to_t to_v eq_t eq_r e1 e2 mt mr nt nr hr
  obtain ⟨W_t, wp_t, z_t⟩ : ∃ W : Int, 0 ≤ W ∧ ret Γ n_laws_szThread [ag t, ai ((1048576 : Int))] = some [.o (.v (.int .i64 (if (1048576 : Int) < W then -1 else (1048576 : Int) - W)))] := ⟨_, by omega, laws_szThread_ok t ((1048576 : Int)) h_t (by omega)⟩
  simp at z_t
  by_cases c_t : (1048576 : Int) < W_t
  · simp only [c_t, if_true] at z_t
    simp [a_laws_FnExactGive, c_laws_FnExactGive, z_t]
  simp only [c_t, if_false] at z_t
  have q_t : ¬ (1048576 : Int) - W_t < 0 := by omega
  simp [a_laws_FnExactGive, c_laws_FnExactGive, z_t, q_t, to_t, to_v, eq_t, eq_r, e1, e2, mt, nt, mr, nr, hr, q1, q2, hm, htk]
theorem laws_FnExactGive_law : LawTrue Γ n_laws_FnExactGive [.struct [.int .i64, (.slice (.struct [.int .i64, .int .i64, .int .i64, (.slice (.struct [.bool, .int .i64])), (.slice (.struct [.bool, .int .i64]))])), .int .i64, .int .i64], .struct [.bool, .int .i64]] 1048576 := by
  intro args h hw
  obtain ⟨_, _, rfl, h0, h⟩ := args_cons h
  obtain ⟨_, _, rfl, h1, h⟩ := args_cons h
  obtain rfl := args_nil h
  obtain ⟨t, rfl, l0⟩ := arg_struct (α := Thread) rfl h0
  obtain ⟨v, rfl, l1⟩ := arg_struct (α := Val) rfl h1
  simp only [svsWt] at hw
  exact law_of_ret (laws_FnExactGive_ok t v (by omega))


end AM
