/- What each function of FnExactRead comes to. -/
import Derived.Test.YtokgcleggkmmoaaLExactReadC
set_option linter.unusedVariables false
set_option linter.unusedSimpArgs false
namespace AM
open Go
set_option maxRecDepth 100000
instance : Enc ByteArray where
  sz := 1
  cells _ s := [.v (.string s)]
  len _ _ := rfl
  fz _ _ := rfl
  own _ := rfl
  pos := by decide
@[simp] theorem bytes_cells (o : Bool) (s : ByteArray) : Enc.cells o s = [.v (.string s)] := rfl
@[simp] theorem bytes_sz : Enc.sz ByteArray = 1 := rfl
instance : Dec ByteArray where
  ty := .str
  tysz := rfl
  dec ts h := by
    obtain ⟨s, rfl⟩ := mem_str.1 h
    exact ⟨s, rfl⟩

structure Stamp where
  who : Int
  n : Int
  deriving DecidableEq
instance : Enc Stamp where
  sz := 2
  cells o x := [.v (.int .i64 x.who), .v (.int .i64 x.n)]
  len _ _ := rfl
  fz o x := by simp
  own x := by simp
  pos := by decide
@[simp] theorem Stamp.cells (o : Bool) (x : Stamp) : Enc.cells o x = [.v (.int .i64 x.who), .v (.int .i64 x.n)] := rfl
@[simp] theorem Stamp.sz : Enc.sz Stamp = 2 := rfl
instance : Dec Stamp where
  ty := .struct [.int .i64, .int .i64]
  tysz := rfl
  dec ts h := by
    have h := mem_struct.1 h
    obtain ⟨a0, r0, rfl, m0, h⟩ := memL_cons.1 h
    obtain ⟨a1, r1, rfl, m1, h⟩ := memL_cons.1 h
    obtain rfl := memL_nil.1 h
    obtain ⟨x_who, rfl, _⟩ := mem_int.1 m0
    obtain ⟨x_n, rfl, _⟩ := mem_int.1 m1
    exact ⟨⟨x_who, x_n⟩, rfl⟩
structure Val where
  ref : Bool
  n : Int
  deriving DecidableEq
instance : Enc Val where
  sz := 2
  cells o x := [.v (.bool x.ref), .v (.int .i64 x.n)]
  len _ _ := rfl
  fz o x := by simp
  own x := by simp
  pos := by decide
@[simp] theorem Val.cells (o : Bool) (x : Val) : Enc.cells o x = [.v (.bool x.ref), .v (.int .i64 x.n)] := rfl
@[simp] theorem Val.sz : Enc.sz Val = 2 := rfl
instance : Dec Val where
  ty := .struct [.bool, .int .i64]
  tysz := rfl
  dec ts h := by
    have h := mem_struct.1 h
    obtain ⟨a0, r0, rfl, m0, h⟩ := memL_cons.1 h
    obtain ⟨a1, r1, rfl, m1, h⟩ := memL_cons.1 h
    obtain rfl := memL_nil.1 h
    obtain ⟨x_ref, rfl⟩ := mem_bool.1 m0
    obtain ⟨x_n, rfl, _⟩ := mem_int.1 m1
    exact ⟨⟨x_ref, x_n⟩, rfl⟩
theorem laws_toVal_ok (x : Val) (h : sm x) : ret Γ n_laws_toVal [ag x] = some [.a (Enc.cells true x)] := by
  obtain ⟨x_ref, x_n⟩ := x
  refine ret_of g_laws_toVal ?_
  simp [a_laws_toVal, c_laws_toVal]
theorem laws_eqVal_ok (x y : Val) (h : sm x) : ret Γ n_laws_eqVal [ag x, ag y] = some [.o (.v (.bool (decide (x = y))))] := by
  obtain ⟨x_ref, x_n⟩ := x
  obtain ⟨y_ref, y_n⟩ := y
  refine ret_of g_laws_eqVal ?_
  simp [a_laws_eqVal, c_laws_eqVal]
  by_cases h0 : x_ref = y_ref
  rotate_left
  · simp [h0]
  by_cases h1 : x_n = y_n
  rotate_left
  · simp [h0, h1]
  simp [h0, h1]
theorem laws_toValS_ok (xs : List Val) (h : sml xs) : ret Γ n_laws_toValS [al xs] = some [.o (tl true xs)] := tos_gen [.v (.bool false), .v (.int .i64 0)] rfl g_laws_toValS (fun _ => rfl) laws_toVal_ok xs h (by decide)
theorem laws_eqValS_ok (xs ys : List Val) (h : sml xs) : ret Γ n_laws_eqValS [al xs, al ys] = some [.o (.v (.bool (decide (xs = ys))))] := eqS_gen g_laws_eqValS laws_eqVal_ok xs ys h
theorem laws_szValS_ok (xs : List Val) (left : Int) (h : sml xs) (hl : 0 ≤ left ∧ left ≤ 1048576) : ret Γ n_laws_szValS [al xs, ai left] = some [.o (.v (.int .i64 (if left < xs.length then -1 else left - xs.length)))] := sz0_gen g_laws_szValS xs left h hl
structure Lock where
  id : Int
  who : Int
  count : Int
  deriving DecidableEq
instance : Enc Lock where
  sz := 3
  cells o x := [.v (.int .i64 x.id), .v (.int .i64 x.who), .v (.int .i64 x.count)]
  len _ _ := rfl
  fz o x := by simp
  own x := by simp
  pos := by decide
@[simp] theorem Lock.cells (o : Bool) (x : Lock) : Enc.cells o x = [.v (.int .i64 x.id), .v (.int .i64 x.who), .v (.int .i64 x.count)] := rfl
@[simp] theorem Lock.sz : Enc.sz Lock = 3 := rfl
instance : Dec Lock where
  ty := .struct [.int .i64, .int .i64, .int .i64]
  tysz := rfl
  dec ts h := by
    have h := mem_struct.1 h
    obtain ⟨a0, r0, rfl, m0, h⟩ := memL_cons.1 h
    obtain ⟨a1, r1, rfl, m1, h⟩ := memL_cons.1 h
    obtain ⟨a2, r2, rfl, m2, h⟩ := memL_cons.1 h
    obtain rfl := memL_nil.1 h
    obtain ⟨x_id, rfl, _⟩ := mem_int.1 m0
    obtain ⟨x_who, rfl, _⟩ := mem_int.1 m1
    obtain ⟨x_count, rfl, _⟩ := mem_int.1 m2
    exact ⟨⟨x_id, x_who, x_count⟩, rfl⟩
theorem laws_toLock_ok (x : Lock) (h : sm x) : ret Γ n_laws_toLock [ag x] = some [.a (Enc.cells true x)] := by
  obtain ⟨x_id, x_who, x_count⟩ := x
  refine ret_of g_laws_toLock ?_
  simp [a_laws_toLock, c_laws_toLock]
theorem laws_eqLock_ok (x y : Lock) (h : sm x) : ret Γ n_laws_eqLock [ag x, ag y] = some [.o (.v (.bool (decide (x = y))))] := by
  obtain ⟨x_id, x_who, x_count⟩ := x
  obtain ⟨y_id, y_who, y_count⟩ := y
  refine ret_of g_laws_eqLock ?_
  simp [a_laws_eqLock, c_laws_eqLock]
  by_cases h0 : x_id = y_id
  rotate_left
  · simp [h0]
  by_cases h1 : x_who = y_who
  rotate_left
  · simp [h0, h1]
  by_cases h2 : x_count = y_count
  rotate_left
  · simp [h0, h1, h2]
  simp [h0, h1, h2]
theorem laws_toLockS_ok (xs : List Lock) (h : sml xs) : ret Γ n_laws_toLockS [al xs] = some [.o (tl true xs)] := tos_gen [.v (.int .i64 0), .v (.int .i64 0), .v (.int .i64 0)] rfl g_laws_toLockS (fun _ => rfl) laws_toLock_ok xs h (by decide)
theorem laws_eqLockS_ok (xs ys : List Lock) (h : sml xs) : ret Γ n_laws_eqLockS [al xs, al ys] = some [.o (.v (.bool (decide (xs = ys))))] := eqS_gen g_laws_eqLockS laws_eqLock_ok xs ys h
theorem laws_szLockS_ok (xs : List Lock) (left : Int) (h : sml xs) (hl : 0 ≤ left ∧ left ≤ 1048576) : ret Γ n_laws_szLockS [al xs, ai left] = some [.o (.v (.int .i64 (if left < xs.length then -1 else left - xs.length)))] := sz0_gen g_laws_szLockS xs left h hl
structure Object where
  id : Int
  cls : Int
  fields : List Val
  deriving DecidableEq
instance : Enc Object where
  sz := 3
  cells o x := [.v (.int .i64 x.id), .v (.int .i64 x.cls), tl o x.fields]
  len _ _ := rfl
  fz o x := by simp
  own x := by simp
  pos := by decide
@[simp] theorem Object.cells (o : Bool) (x : Object) : Enc.cells o x = [.v (.int .i64 x.id), .v (.int .i64 x.cls), tl o x.fields] := rfl
@[simp] theorem Object.sz : Enc.sz Object = 3 := rfl
instance : Dec Object where
  ty := .struct [.int .i64, .int .i64, .slice (.struct [.bool, .int .i64])]
  tysz := rfl
  dec ts h := by
    have h := mem_struct.1 h
    obtain ⟨a0, r0, rfl, m0, h⟩ := memL_cons.1 h
    obtain ⟨a1, r1, rfl, m1, h⟩ := memL_cons.1 h
    obtain ⟨a2, r2, rfl, m2, h⟩ := memL_cons.1 h
    obtain rfl := memL_nil.1 h
    obtain ⟨x_id, rfl, _⟩ := mem_int.1 m0
    obtain ⟨x_cls, rfl, _⟩ := mem_int.1 m1
    obtain ⟨x_fields, rfl⟩ := dec_list2 (α := Val) m2
    exact ⟨⟨x_id, x_cls, x_fields⟩, rfl⟩
def Object.w (x : Object) : Nat := x.fields.length
theorem laws_toObject_ok (x : Object) (h : sm x) : ret Γ n_laws_toObject [ag x] = some [.a (Enc.cells true x)] := by
  obtain ⟨x_id, x_cls, x_fields⟩ := x
  simp only [sm, Object.cells, wtL, T.wt, valWt, tl] at h
  have e2 := laws_toValS_ok x_fields (by simp only [sml]; omega)
  simp at e2
  refine ret_of g_laws_toObject ?_
  simp [a_laws_toObject, c_laws_toObject, e2]
theorem laws_eqObject_ok (x y : Object) (h : sm x) : ret Γ n_laws_eqObject [ag x, ag y] = some [.o (.v (.bool (decide (x = y))))] := by
  obtain ⟨x_id, x_cls, x_fields⟩ := x
  obtain ⟨y_id, y_cls, y_fields⟩ := y
  simp only [sm, Object.cells, wtL, T.wt, valWt, tl] at h
  have e2 := laws_eqValS_ok x_fields y_fields (by simp only [sml]; omega)
  simp at e2
  refine ret_of g_laws_eqObject ?_
  simp [a_laws_eqObject, c_laws_eqObject, e2]
  by_cases h0 : x_id = y_id
  rotate_left
  · simp [h0]
  by_cases h1 : x_cls = y_cls
  rotate_left
  · simp [h0, h1]
  by_cases h2 : x_fields = y_fields
  rotate_left
  · simp [h0, h1, h2]
  simp [h0, h1, h2]
theorem laws_szObject_ok (x : Object) (left : Int) (h : sm x) (hl : 0 ≤ left ∧ left ≤ 1048576) : ret Γ n_laws_szObject [ag x, ai left] = some [.o (.v (.int .i64 (if left < (Object.w x : Nat) then -1 else left - (Object.w x : Nat))))] := by
  obtain ⟨x_id, x_cls, x_fields⟩ := x
  simp only [sm, Object.cells, wtL, T.wt, valWt, tl] at h
  suffices key : ∀ R : Int, (left < ((x_fields.length : Nat) : Int) → R = -1) → (¬ left < ((x_fields.length : Nat) : Int) → R = left - ((x_fields.length : Nat) : Int)) → ret Γ n_laws_szObject [ag (⟨x_id, x_cls, x_fields⟩ : Object), ai left] = some [.o (.v (.int .i64 R))] from key _ (fun h => if_pos h) (fun h => if_neg h)
  intro R hA hB
  refine ret_of g_laws_szObject ?_
  have e0 := laws_szValS_ok x_fields (left) (by simp only [sml]; omega) (by omega)
  by_cases h0 : left < ((x_fields.length : Nat) : Int)
  · rw [if_pos h0] at e0
    simp at e0
    simp [a_laws_szObject, c_laws_szObject, e0]
    rw [hA (by omega)]
  rw [if_neg h0] at e0
  simp at e0
  have p0 : ¬ left - (x_fields.length : Int) < 0 := by omega
  simp [a_laws_szObject, c_laws_szObject, e0, p0]
  all_goals first
    | (rw [hB (by omega)]; done)
    | (rw [hB (by omega)]; omega)
theorem laws_toObjectS_ok (xs : List Object) (h : sml xs) : ret Γ n_laws_toObjectS [al xs] = some [.o (tl true xs)] := to_gen [.v (.int .i64 0), .v (.int .i64 0), .l true 2 []] rfl g_laws_toObjectS laws_toObject_ok xs h (by decide)
theorem laws_eqObjectS_ok (xs ys : List Object) (h : sml xs) : ret Γ n_laws_eqObjectS [al xs, al ys] = some [.o (.v (.bool (decide (xs = ys))))] := eqS_gen g_laws_eqObjectS laws_eqObject_ok xs ys h
theorem laws_szObjectS_ok (xs : List Object) (left : Int) (h : sml xs) (hl : 0 ≤ left ∧ left ≤ 1048576) : ret Γ n_laws_szObjectS [al xs, ai left] = some [.o (.v (.int .i64 (if left < ((xs.length + wsum Object.w xs : Nat) : Int) then -1 else left - ((xs.length + wsum Object.w xs : Nat) : Int))))] := szS_gen Object.w g_laws_szObjectS laws_szObject_ok xs left h hl
structure Memory where
  objects : List Object
  locks : List Lock
  deriving DecidableEq
instance : Enc Memory where
  sz := 2
  cells o x := [tl o x.objects, tl o x.locks]
  len _ _ := rfl
  fz o x := by simp
  own x := by simp
  pos := by decide
@[simp] theorem Memory.cells (o : Bool) (x : Memory) : Enc.cells o x = [tl o x.objects, tl o x.locks] := rfl
@[simp] theorem Memory.sz : Enc.sz Memory = 2 := rfl
instance : Dec Memory where
  ty := .struct [.slice (.struct [.int .i64, .int .i64, .slice (.struct [.bool, .int .i64])]), .slice (.struct [.int .i64, .int .i64, .int .i64])]
  tysz := rfl
  dec ts h := by
    have h := mem_struct.1 h
    obtain ⟨a0, r0, rfl, m0, h⟩ := memL_cons.1 h
    obtain ⟨a1, r1, rfl, m1, h⟩ := memL_cons.1 h
    obtain rfl := memL_nil.1 h
    obtain ⟨x_objects, rfl⟩ := dec_list2 (α := Object) m0
    obtain ⟨x_locks, rfl⟩ := dec_list2 (α := Lock) m1
    exact ⟨⟨x_objects, x_locks⟩, rfl⟩
def Memory.w (x : Memory) : Nat := (x.objects.length + wsum Object.w x.objects) + x.locks.length
theorem laws_toMemory_ok (x : Memory) (h : sm x) : ret Γ n_laws_toMemory [ag x] = some [.a (Enc.cells true x)] := by
  obtain ⟨x_objects, x_locks⟩ := x
  simp only [sm, Memory.cells, wtL, T.wt, valWt, tl] at h
  have e0 := laws_toObjectS_ok x_objects (by simp only [sml]; omega)
  simp at e0
  have e1 := laws_toLockS_ok x_locks (by simp only [sml]; omega)
  simp at e1
  refine ret_of g_laws_toMemory ?_
  simp [a_laws_toMemory, c_laws_toMemory, e0, e1]
theorem laws_eqMemory_ok (x y : Memory) (h : sm x) : ret Γ n_laws_eqMemory [ag x, ag y] = some [.o (.v (.bool (decide (x = y))))] := by
  obtain ⟨x_objects, x_locks⟩ := x
  obtain ⟨y_objects, y_locks⟩ := y
  simp only [sm, Memory.cells, wtL, T.wt, valWt, tl] at h
  have e0 := laws_eqObjectS_ok x_objects y_objects (by simp only [sml]; omega)
  simp at e0
  have e1 := laws_eqLockS_ok x_locks y_locks (by simp only [sml]; omega)
  simp at e1
  refine ret_of g_laws_eqMemory ?_
  simp [a_laws_eqMemory, c_laws_eqMemory, e0, e1]
  by_cases h0 : x_objects = y_objects
  rotate_left
  · simp [h0]
  by_cases h1 : x_locks = y_locks
  rotate_left
  · simp [h0, h1]
  simp [h0, h1]
theorem laws_szMemory_ok (x : Memory) (left : Int) (h : sm x) (hl : 0 ≤ left ∧ left ≤ 1048576) : ret Γ n_laws_szMemory [ag x, ai left] = some [.o (.v (.int .i64 (if left < (Memory.w x : Nat) then -1 else left - (Memory.w x : Nat))))] := by
  obtain ⟨x_objects, x_locks⟩ := x
  simp only [sm, Memory.cells, wtL, T.wt, valWt, tl] at h
  suffices key : ∀ R : Int, (left < (((x_objects.length + wsum Object.w x_objects) + x_locks.length : Nat) : Int) → R = -1) → (¬ left < (((x_objects.length + wsum Object.w x_objects) + x_locks.length : Nat) : Int) → R = left - (((x_objects.length + wsum Object.w x_objects) + x_locks.length : Nat) : Int)) → ret Γ n_laws_szMemory [ag (⟨x_objects, x_locks⟩ : Memory), ai left] = some [.o (.v (.int .i64 R))] from key _ (fun h => if_pos h) (fun h => if_neg h)
  intro R hA hB
  refine ret_of g_laws_szMemory ?_
  have e0 := laws_szObjectS_ok x_objects (left) (by simp only [sml]; omega) (by omega)
  by_cases h0 : left < (((x_objects.length + wsum Object.w x_objects) : Nat) : Int)
  · rw [if_pos h0] at e0
    simp at e0
    simp [a_laws_szMemory, c_laws_szMemory, e0]
    rw [hA (by omega)]
  rw [if_neg h0] at e0
  simp at e0
  have p0 : ¬ left - ((x_objects.length : Int) + ((wsum Object.w x_objects : Nat) : Int)) < 0 := by omega
  have e1 := laws_szLockS_ok x_locks (left - ((x_objects.length : Int) + ((wsum Object.w x_objects : Nat) : Int))) (by simp only [sml]; omega) (by omega)
  by_cases h1 : left - ((x_objects.length : Int) + ((wsum Object.w x_objects : Nat) : Int)) < ((x_locks.length : Nat) : Int)
  · rw [if_pos h1] at e1
    simp at e1
    simp [a_laws_szMemory, c_laws_szMemory, e0, p0, e1]
    rw [hA (by omega)]
  rw [if_neg h1] at e1
  simp at e1
  have p1 : ¬ left - ((x_objects.length : Int) + ((wsum Object.w x_objects : Nat) : Int)) - (x_locks.length : Int) < 0 := by omega
  simp [a_laws_szMemory, c_laws_szMemory, e0, p0, e1, p1]
  all_goals first
    | (rw [hB (by omega)]; done)
    | (rw [hB (by omega)]; omega)
structure Frame where
  kind : Int
  method : Int
  pc : Int
  locals : List Val
  stack : List Val
  deriving DecidableEq
instance : Enc Frame where
  sz := 5
  cells o x := [.v (.int .i64 x.kind), .v (.int .i64 x.method), .v (.int .i64 x.pc), tl o x.locals, tl o x.stack]
  len _ _ := rfl
  fz o x := by simp
  own x := by simp
  pos := by decide
@[simp] theorem Frame.cells (o : Bool) (x : Frame) : Enc.cells o x = [.v (.int .i64 x.kind), .v (.int .i64 x.method), .v (.int .i64 x.pc), tl o x.locals, tl o x.stack] := rfl
@[simp] theorem Frame.sz : Enc.sz Frame = 5 := rfl
instance : Dec Frame where
  ty := .struct [.int .i64, .int .i64, .int .i64, .slice (.struct [.bool, .int .i64]), .slice (.struct [.bool, .int .i64])]
  tysz := rfl
  dec ts h := by
    have h := mem_struct.1 h
    obtain ⟨a0, r0, rfl, m0, h⟩ := memL_cons.1 h
    obtain ⟨a1, r1, rfl, m1, h⟩ := memL_cons.1 h
    obtain ⟨a2, r2, rfl, m2, h⟩ := memL_cons.1 h
    obtain ⟨a3, r3, rfl, m3, h⟩ := memL_cons.1 h
    obtain ⟨a4, r4, rfl, m4, h⟩ := memL_cons.1 h
    obtain rfl := memL_nil.1 h
    obtain ⟨x_kind, rfl, _⟩ := mem_int.1 m0
    obtain ⟨x_method, rfl, _⟩ := mem_int.1 m1
    obtain ⟨x_pc, rfl, _⟩ := mem_int.1 m2
    obtain ⟨x_locals, rfl⟩ := dec_list2 (α := Val) m3
    obtain ⟨x_stack, rfl⟩ := dec_list2 (α := Val) m4
    exact ⟨⟨x_kind, x_method, x_pc, x_locals, x_stack⟩, rfl⟩
def Frame.w (x : Frame) : Nat := x.locals.length + x.stack.length
structure Thread where
  id : Int
  frames : List Frame
  state : Int
  made : Int
  deriving DecidableEq
instance : Enc Thread where
  sz := 4
  cells o x := [.v (.int .i64 x.id), tl o x.frames, .v (.int .i64 x.state), .v (.int .i64 x.made)]
  len _ _ := rfl
  fz o x := by simp
  own x := by simp
  pos := by decide
@[simp] theorem Thread.cells (o : Bool) (x : Thread) : Enc.cells o x = [.v (.int .i64 x.id), tl o x.frames, .v (.int .i64 x.state), .v (.int .i64 x.made)] := rfl
@[simp] theorem Thread.sz : Enc.sz Thread = 4 := rfl
instance : Dec Thread where
  ty := .struct [.int .i64, .slice (.struct [.int .i64, .int .i64, .int .i64, .slice (.struct [.bool, .int .i64]), .slice (.struct [.bool, .int .i64])]), .int .i64, .int .i64]
  tysz := rfl
  dec ts h := by
    have h := mem_struct.1 h
    obtain ⟨a0, r0, rfl, m0, h⟩ := memL_cons.1 h
    obtain ⟨a1, r1, rfl, m1, h⟩ := memL_cons.1 h
    obtain ⟨a2, r2, rfl, m2, h⟩ := memL_cons.1 h
    obtain ⟨a3, r3, rfl, m3, h⟩ := memL_cons.1 h
    obtain rfl := memL_nil.1 h
    obtain ⟨x_id, rfl, _⟩ := mem_int.1 m0
    obtain ⟨x_frames, rfl⟩ := dec_list2 (α := Frame) m1
    obtain ⟨x_state, rfl, _⟩ := mem_int.1 m2
    obtain ⟨x_made, rfl, _⟩ := mem_int.1 m3
    exact ⟨⟨x_id, x_frames, x_state, x_made⟩, rfl⟩
def Thread.w (x : Thread) : Nat := (x.frames.length + wsum Frame.w x.frames)
structure Ins where
  op : Int
  n : Int
  deriving DecidableEq
instance : Enc Ins where
  sz := 2
  cells o x := [.v (.int .i64 x.op), .v (.int .i64 x.n)]
  len _ _ := rfl
  fz o x := by simp
  own x := by simp
  pos := by decide
@[simp] theorem Ins.cells (o : Bool) (x : Ins) : Enc.cells o x = [.v (.int .i64 x.op), .v (.int .i64 x.n)] := rfl
@[simp] theorem Ins.sz : Enc.sz Ins = 2 := rfl
instance : Dec Ins where
  ty := .struct [.int .i64, .int .i64]
  tysz := rfl
  dec ts h := by
    have h := mem_struct.1 h
    obtain ⟨a0, r0, rfl, m0, h⟩ := memL_cons.1 h
    obtain ⟨a1, r1, rfl, m1, h⟩ := memL_cons.1 h
    obtain rfl := memL_nil.1 h
    obtain ⟨x_op, rfl, _⟩ := mem_int.1 m0
    obtain ⟨x_n, rfl, _⟩ := mem_int.1 m1
    exact ⟨⟨x_op, x_n⟩, rfl⟩
structure Const where
  kind : Int
  n : Int
  a : ByteArray
  b : ByteArray
  deriving DecidableEq
instance : Enc Const where
  sz := 4
  cells o x := [.v (.int .i64 x.kind), .v (.int .i64 x.n), .v (.string x.a), .v (.string x.b)]
  len _ _ := rfl
  fz o x := by simp
  own x := by simp
  pos := by decide
@[simp] theorem Const.cells (o : Bool) (x : Const) : Enc.cells o x = [.v (.int .i64 x.kind), .v (.int .i64 x.n), .v (.string x.a), .v (.string x.b)] := rfl
@[simp] theorem Const.sz : Enc.sz Const = 4 := rfl
instance : Dec Const where
  ty := .struct [.int .i64, .int .i64, .str, .str]
  tysz := rfl
  dec ts h := by
    have h := mem_struct.1 h
    obtain ⟨a0, r0, rfl, m0, h⟩ := memL_cons.1 h
    obtain ⟨a1, r1, rfl, m1, h⟩ := memL_cons.1 h
    obtain ⟨a2, r2, rfl, m2, h⟩ := memL_cons.1 h
    obtain ⟨a3, r3, rfl, m3, h⟩ := memL_cons.1 h
    obtain rfl := memL_nil.1 h
    obtain ⟨x_kind, rfl, _⟩ := mem_int.1 m0
    obtain ⟨x_n, rfl, _⟩ := mem_int.1 m1
    obtain ⟨x_a, rfl⟩ := mem_str.1 m2
    obtain ⟨x_b, rfl⟩ := mem_str.1 m3
    exact ⟨⟨x_kind, x_n, x_a, x_b⟩, rfl⟩
def Const.w (x : Const) : Nat := x.a.size + x.b.size
structure Field where
  name : ByteArray
  type : ByteArray
  deriving DecidableEq
instance : Enc Field where
  sz := 2
  cells o x := [.v (.string x.name), .v (.string x.type)]
  len _ _ := rfl
  fz o x := by simp
  own x := by simp
  pos := by decide
@[simp] theorem Field.cells (o : Bool) (x : Field) : Enc.cells o x = [.v (.string x.name), .v (.string x.type)] := rfl
@[simp] theorem Field.sz : Enc.sz Field = 2 := rfl
instance : Dec Field where
  ty := .struct [.str, .str]
  tysz := rfl
  dec ts h := by
    have h := mem_struct.1 h
    obtain ⟨a0, r0, rfl, m0, h⟩ := memL_cons.1 h
    obtain ⟨a1, r1, rfl, m1, h⟩ := memL_cons.1 h
    obtain rfl := memL_nil.1 h
    obtain ⟨x_name, rfl⟩ := mem_str.1 m0
    obtain ⟨x_type, rfl⟩ := mem_str.1 m1
    exact ⟨⟨x_name, x_type⟩, rfl⟩
def Field.w (x : Field) : Nat := x.name.size + x.type.size
structure Code where
  name : ByteArray
  owner : Int
  params : List ByteArray
  result : ByteArray
  locals : Int
  list : List Ins
  deriving DecidableEq
instance : Enc Code where
  sz := 6
  cells o x := [.v (.string x.name), .v (.int .i64 x.owner), tl o x.params, .v (.string x.result), .v (.int .i64 x.locals), tl o x.list]
  len _ _ := rfl
  fz o x := by simp
  own x := by simp
  pos := by decide
@[simp] theorem Code.cells (o : Bool) (x : Code) : Enc.cells o x = [.v (.string x.name), .v (.int .i64 x.owner), tl o x.params, .v (.string x.result), .v (.int .i64 x.locals), tl o x.list] := rfl
@[simp] theorem Code.sz : Enc.sz Code = 6 := rfl
instance : Dec Code where
  ty := .struct [.str, .int .i64, .slice .str, .str, .int .i64, .slice (.struct [.int .i64, .int .i64])]
  tysz := rfl
  dec ts h := by
    have h := mem_struct.1 h
    obtain ⟨a0, r0, rfl, m0, h⟩ := memL_cons.1 h
    obtain ⟨a1, r1, rfl, m1, h⟩ := memL_cons.1 h
    obtain ⟨a2, r2, rfl, m2, h⟩ := memL_cons.1 h
    obtain ⟨a3, r3, rfl, m3, h⟩ := memL_cons.1 h
    obtain ⟨a4, r4, rfl, m4, h⟩ := memL_cons.1 h
    obtain ⟨a5, r5, rfl, m5, h⟩ := memL_cons.1 h
    obtain rfl := memL_nil.1 h
    obtain ⟨x_name, rfl⟩ := mem_str.1 m0
    obtain ⟨x_owner, rfl, _⟩ := mem_int.1 m1
    obtain ⟨x_params, rfl⟩ := dec_list2 (α := ByteArray) m2
    obtain ⟨x_result, rfl⟩ := mem_str.1 m3
    obtain ⟨x_locals, rfl, _⟩ := mem_int.1 m4
    obtain ⟨x_list, rfl⟩ := dec_list2 (α := Ins) m5
    exact ⟨⟨x_name, x_owner, x_params, x_result, x_locals, x_list⟩, rfl⟩
def Code.w (x : Code) : Nat := x.name.size + (x.params.length + wsum ByteArray.size x.params) + x.result.size + x.list.length
structure Kind where
  name : ByteArray
  super : Int
  pool : List Const
  fields : List Field
  methods : List Code
  deriving DecidableEq
instance : Enc Kind where
  sz := 5
  cells o x := [.v (.string x.name), .v (.int .i64 x.super), tl o x.pool, tl o x.fields, tl o x.methods]
  len _ _ := rfl
  fz o x := by simp
  own x := by simp
  pos := by decide
@[simp] theorem Kind.cells (o : Bool) (x : Kind) : Enc.cells o x = [.v (.string x.name), .v (.int .i64 x.super), tl o x.pool, tl o x.fields, tl o x.methods] := rfl
@[simp] theorem Kind.sz : Enc.sz Kind = 5 := rfl
instance : Dec Kind where
  ty := .struct [.str, .int .i64, .slice (.struct [.int .i64, .int .i64, .str, .str]), .slice (.struct [.str, .str]), .slice (.struct [.str, .int .i64, .slice .str, .str, .int .i64, .slice (.struct [.int .i64, .int .i64])])]
  tysz := rfl
  dec ts h := by
    have h := mem_struct.1 h
    obtain ⟨a0, r0, rfl, m0, h⟩ := memL_cons.1 h
    obtain ⟨a1, r1, rfl, m1, h⟩ := memL_cons.1 h
    obtain ⟨a2, r2, rfl, m2, h⟩ := memL_cons.1 h
    obtain ⟨a3, r3, rfl, m3, h⟩ := memL_cons.1 h
    obtain ⟨a4, r4, rfl, m4, h⟩ := memL_cons.1 h
    obtain rfl := memL_nil.1 h
    obtain ⟨x_name, rfl⟩ := mem_str.1 m0
    obtain ⟨x_super, rfl, _⟩ := mem_int.1 m1
    obtain ⟨x_pool, rfl⟩ := dec_list2 (α := Const) m2
    obtain ⟨x_fields, rfl⟩ := dec_list2 (α := Field) m3
    obtain ⟨x_methods, rfl⟩ := dec_list2 (α := Code) m4
    exact ⟨⟨x_name, x_super, x_pool, x_fields, x_methods⟩, rfl⟩
def Kind.w (x : Kind) : Nat := x.name.size + (x.pool.length + wsum Const.w x.pool) + (x.fields.length + wsum Field.w x.fields) + (x.methods.length + wsum Code.w x.methods)
structure Prog where
  kinds : List Kind
  deriving DecidableEq
instance : Enc Prog where
  sz := 1
  cells o x := [tl o x.kinds]
  len _ _ := rfl
  fz o x := by simp
  own x := by simp
  pos := by decide
@[simp] theorem Prog.cells (o : Bool) (x : Prog) : Enc.cells o x = [tl o x.kinds] := rfl
@[simp] theorem Prog.sz : Enc.sz Prog = 1 := rfl
instance : Dec Prog where
  ty := .struct [.slice (.struct [.str, .int .i64, .slice (.struct [.int .i64, .int .i64, .str, .str]), .slice (.struct [.str, .str]), .slice (.struct [.str, .int .i64, .slice .str, .str, .int .i64, .slice (.struct [.int .i64, .int .i64])])])]
  tysz := rfl
  dec ts h := by
    have h := mem_struct.1 h
    obtain ⟨a0, r0, rfl, m0, h⟩ := memL_cons.1 h
    obtain rfl := memL_nil.1 h
    obtain ⟨x_kinds, rfl⟩ := dec_list2 (α := Kind) m0
    exact ⟨⟨x_kinds⟩, rfl⟩
def Prog.w (x : Prog) : Nat := (x.kinds.length + wsum Kind.w x.kinds)
structure Typ where
  kind : Int
  cls : Int
  deriving DecidableEq
instance : Enc Typ where
  sz := 2
  cells o x := [.v (.int .i64 x.kind), .v (.int .i64 x.cls)]
  len _ _ := rfl
  fz o x := by simp
  own x := by simp
  pos := by decide
@[simp] theorem Typ.cells (o : Bool) (x : Typ) : Enc.cells o x = [.v (.int .i64 x.kind), .v (.int .i64 x.cls)] := rfl
@[simp] theorem Typ.sz : Enc.sz Typ = 2 := rfl
instance : Dec Typ where
  ty := .struct [.int .i64, .int .i64]
  tysz := rfl
  dec ts h := by
    have h := mem_struct.1 h
    obtain ⟨a0, r0, rfl, m0, h⟩ := memL_cons.1 h
    obtain ⟨a1, r1, rfl, m1, h⟩ := memL_cons.1 h
    obtain rfl := memL_nil.1 h
    obtain ⟨x_kind, rfl, _⟩ := mem_int.1 m0
    obtain ⟨x_cls, rfl, _⟩ := mem_int.1 m1
    exact ⟨⟨x_kind, x_cls⟩, rfl⟩
structure Flow where
  locals : List Typ
  stack : List Typ
  held : Int
  deriving DecidableEq
instance : Enc Flow where
  sz := 3
  cells o x := [tl o x.locals, tl o x.stack, .v (.int .i64 x.held)]
  len _ _ := rfl
  fz o x := by simp
  own x := by simp
  pos := by decide
@[simp] theorem Flow.cells (o : Bool) (x : Flow) : Enc.cells o x = [tl o x.locals, tl o x.stack, .v (.int .i64 x.held)] := rfl
@[simp] theorem Flow.sz : Enc.sz Flow = 3 := rfl
instance : Dec Flow where
  ty := .struct [.slice (.struct [.int .i64, .int .i64]), .slice (.struct [.int .i64, .int .i64]), .int .i64]
  tysz := rfl
  dec ts h := by
    have h := mem_struct.1 h
    obtain ⟨a0, r0, rfl, m0, h⟩ := memL_cons.1 h
    obtain ⟨a1, r1, rfl, m1, h⟩ := memL_cons.1 h
    obtain ⟨a2, r2, rfl, m2, h⟩ := memL_cons.1 h
    obtain rfl := memL_nil.1 h
    obtain ⟨x_locals, rfl⟩ := dec_list2 (α := Typ) m0
    obtain ⟨x_stack, rfl⟩ := dec_list2 (α := Typ) m1
    obtain ⟨x_held, rfl, _⟩ := mem_int.1 m2
    exact ⟨⟨x_locals, x_stack, x_held⟩, rfl⟩
def Flow.w (x : Flow) : Nat := x.locals.length + x.stack.length

def inR (x lo hi : Int) : Bool := decide (lo ≤ x) && decide (x ≤ hi)
theorem spec_l1In_ok (x lo hi : Int) : ret Γ n_spec_l1In [ai x, ai lo, ai hi] = some [.o (.v (.bool (inR x lo hi)))] := by
  refine ret_of g_spec_l1In ?_
  by_cases h : lo ≤ x <;> simp [a_spec_l1In, c_spec_l1In, inR, h]
theorem impl_within_ok (x lo hi : Int) : ret Γ n_impl_within [ai x, ai lo, ai hi] = some [.o (.v (.bool (inR x lo hi)))] := by
  refine ret_of g_impl_within ?_
  by_cases h : lo ≤ x <;> simp [a_impl_within, c_impl_within, inR, h]
def count (who : Int) : List Stamp → Int
  | [] => 0
  | x :: xs => if x.who = who then x.n else count who xs
/-- A clock, one stamp after another. -/
def stampOk (xs : List Stamp) (i : Nat) (x : Stamp) : Bool := inR x.who 1 1000000 && inR x.n 1 16777215 && (decide (i = 0) || decide ((xs.getD (i - 1) x).who < x.who))
def clockFrom (xs : List Stamp) : List Stamp → Nat → Bool
  | [], _ => true
  | x :: r, i => stampOk xs i x && clockFrom xs r (i + 1)
def clockOk (xs : List Stamp) : Bool := clockFrom xs xs 0
def knowsAll (a : List Stamp) (b : List Stamp) : Bool := b.all fun s => decide (s.n ≤ count s.who a)
def knows (a b : List Stamp) : Bool := clockOk a && clockOk b && knowsAll a b

theorem inR_nat {k : Int} {n : Nat} (h : inR k 0 ((n : Int) - 1) = true) : ∃ j : Nat, k = (j : Int) ∧ j < n := by
  simp [inR] at h
  exact ⟨k.toNat, by omega, by omega⟩
theorem fidx_nil {α : Type} (p : α → Bool) (i : Nat) : fidx p [] i = -1 := rfl
theorem fidx_cons {α : Type} (p : α → Bool) (x : α) (xs : List α) (i : Nat) : fidx p (x :: xs) i = if p x = true then (i : Int) else fidx p xs (i + 1) := rfl
def kindOf (p : List Kind) (s : ByteArray) : Int := fidx (fun k => decide (k.name = s)) p 0

@[simp] theorem veqL_nl : veqL [] [] [] = some true := rfl
@[simp] theorem veqL_int (k : IntKind) (a b : Int) (ks : List Nat) (xs ys : List SV) : veqL (1 :: ks) (.c (.v (.int k a)) :: xs) (.c (.v (.int k b)) :: ys) = (veqL ks xs ys).map (fun q => decide (a = b) && q) := by
  simp only [veqL, veq, if_true]
  cases veqL ks xs ys <;> by_cases h : a = b <;> simp [h]
@[simp] theorem veqL_bool (a b : Bool) (ks : List Nat) (xs ys : List SV) : veqL (0 :: ks) (.c (.v (.bool a)) :: xs) (.c (.v (.bool b)) :: ys) = (veqL ks xs ys).map (fun q => (a == b) && q) := by
  simp only [veqL, veq]
  cases veqL ks xs ys <;> simp
theorem bytes_beq (a b : ByteArray) : (a == b) = decide (a = b) := by
  obtain ⟨x⟩ := a
  obtain ⟨y⟩ := b
  have h : (ByteArray.mk x == ByteArray.mk y) = (x == y) := rfl
  rw [h]
  by_cases h : x = y <;> simp [h]
@[simp] theorem veqL_str (a b : ByteArray) (ks : List Nat) (xs ys : List SV) : veqL (2 :: ks) (.c (.v (.string a)) :: xs) (.c (.v (.string b)) :: ys) = (veqL ks xs ys).map (fun q => decide (a = b) && q) := by
  simp only [veqL, veq, bytes_beq]
  cases veqL ks xs ys <;> by_cases h : a = b <;> simp [h]
def typeOk (n : Nat) (k c : Int) : Bool := if k = 3 then inR c 0 ((n : Int) - 1) else inR k 0 2 && decide (c = 0)
/-- a is b, or has it above, in so many steps. -/
def subN (p : List Kind) (b : Int) : Nat → Int → Bool
  | 0, _ => false
  | n + 1, a => if inR a 0 ((p.length : Int) - 1) = true then (if a = b then true else match p[a.toNat]? with | some k => subN p b n k.super | none => false) else false
def sub (p : List Kind) (a b : Int) : Bool := inR b 0 ((p.length : Int) - 1) && subN p b 7 a
def typeOf (p : List Kind) (s : ByteArray) : Typ := if s = ⟨#[73]⟩ then ⟨1, 0⟩ else if kindOf p s < 0 then ⟨0, 0⟩ else ⟨3, kindOf p s⟩
def fits (p : List Kind) (ak ac bk bc : Int) : Bool := typeOk p.length ak ac && typeOk p.length bk bc && (decide (bk = 0) || (decide (ak = bk) && decide (ac = bc)) || (decide (bk = 3) && (decide (ak = 2) || (decide (ak = 3) && sub p ac bc))))

@[simp] theorem idxOf_id (a b : Id) (l : List Id) : List.idxOf a (b :: l) = if b = a then 0 else List.idxOf a l + 1 := by
  rw [List.idxOf_cons]
  by_cases h : b = a
  · subst h; simp
  · have e : (b == a) = false := by simpa using h
    simp [h, e]
theorem sm_Typ (x : Typ) : sm x := by
  simp only [sm, Typ.cells, wtL, T.wt, valWt]; omega
theorem sm_Kind {k : Kind} (h : sm k) : sml k.pool ∧ sml k.fields ∧ sml k.methods := by
  simp only [sm, Kind.cells, wtL, T.wt, valWt, tl] at h
  exact ⟨by simp only [sml]; omega, by simp only [sml]; omega, by simp only [sml]; omega⟩
theorem sm_Prog {p : Prog} (h : sm p) : sml p.kinds := by
  simp only [sm, Prog.cells, wtL, T.wt, valWt, tl] at h
  simp only [sml]; omega
theorem sm_Flow {p : Flow} (h : sm p) : sml p.locals ∧ sml p.stack := by
  simp only [sm, Flow.cells, wtL, T.wt, valWt, tl] at h
  exact ⟨by simp only [sml]; omega, by simp only [sml]; omega⟩
def fieldIx (p : List Kind) (k : Int) (s : ByteArray) : Int := if inR k 0 ((p.length : Int) - 1) = true then (match p[k.toNat]? with | some q => fidx (fun f => decide (f.name = s)) q.fields 0 | none => -1) else -1
def methodIx (p : List Kind) (k : Int) (s : ByteArray) : Int := if inR k 0 ((p.length : Int) - 1) = true then (match p[k.toNat]? with | some q => fidx (fun f => decide (f.name = s)) q.methods 0 | none => -1) else -1
def flowOk (p : List Kind) (f : Flow) : Bool := f.locals.all (fun t => typeOk p.length t.kind t.cls) && f.stack.all (fun t => typeOk p.length t.kind t.cls) && (decide (f.locals.length ≤ 6) && decide (f.stack.length ≤ 6) && inR f.held 0 4)
theorem all_drop {α : Type} (f : α → Bool) {xs : List α} {i : Nat} (h : i < xs.length) : (xs.drop i).all f = (f xs[i] && (xs.drop (i + 1)).all f) := by rw [List.drop_eq_getElem_cons h]; rfl

def joinN (p : List Kind) (b : Int) : Nat → Int → Typ
  | 0, _ => ⟨0, 0⟩
  | n + 1, k => if inR k 0 ((p.length : Int) - 1) = true then (if sub p b k = true then ⟨3, k⟩ else match p[k.toNat]? with | some q => joinN p b n q.super | none => ⟨0, 0⟩) else ⟨0, 0⟩
def join (p : List Kind) (a b : Typ) : Typ := if fits p a.kind a.cls b.kind b.cls = true then b else if fits p b.kind b.cls a.kind a.cls = true then a else if (typeOk p.length a.kind a.cls && typeOk p.length b.kind b.cls && decide (a.kind = 3) && decide (b.kind = 3)) = true then (match p[a.cls.toNat]? with | some q => joinN p b.cls 6 q.super | none => ⟨0, 0⟩) else ⟨0, 0⟩
theorem fits_sub {p : List Kind} {a b : Int} (h1 : typeOk p.length 3 a = true) (h2 : typeOk p.length 3 b = true) (h : fits p 3 b 3 a = false) : sub p b a = false := by
  simp [fits, h1, h2] at h
  exact h.2



def allN (f : Nat → Bool) : Nat → Nat → Bool
  | 0, _ => true
  | n + 1, i => f i && allN f n (i + 1)
theorem allN_0 (f : Nat → Bool) (i : Nat) : allN f 0 i = true := rfl
theorem allN_step (f : Nat → Bool) {i n : Nat} (h : i < n) : allN f (n - i) i = (f i && allN f (n - (i + 1)) (i + 1)) := by
  have e : n - i = (n - (i + 1)) + 1 := by omega
  rw [e]; rfl
def lk {α : Type} (xs : List α) (i : Nat) (f : α → Bool) : Bool := match xs[i]? with | some x => f x | none => false
theorem lk_get {α : Type} {xs : List α} {i : Nat} (f : α → Bool) (h : i < xs.length) : lk xs i f = f xs[i] := by simp [lk, h]
def valOk (v : Val) : Bool := if v.ref = true then inR v.n 0 1000000 else inR v.n (-2147483648) 2147483647
def valsOk (xs : List Val) : Bool := allN (fun i => lk xs i valOk) xs.length 0
def hasMethod (p : List Kind) (k m : Int) : Bool := inR k 0 ((p.length : Int) - 1) && (match p[k.toNat]? with | some q => inR m 0 ((q.methods.length : Int) - 1) | none => false)
theorem hasMethod_get {p : List Kind} {k m : Int} (h : hasMethod p k m = true) : ∃ j i : Nat, ∃ hj : j < p.length, k = (j : Int) ∧ m = (i : Int) ∧ i < p[j].methods.length := by
  unfold hasMethod at h
  rw [Bool.and_eq_true] at h
  obtain ⟨h1, h2⟩ := h
  obtain ⟨j, rfl, hj⟩ := inR_nat h1
  simp only [Int.toNat_natCast, List.getElem?_eq_getElem hj] at h2
  obtain ⟨i, rfl, hi⟩ := inR_nat h2
  exact ⟨j, i, hj, rfl, rfl, hi⟩
theorem sm_Code {c : Code} (h : sm c) : sml c.list ∧ sml c.params := by
  simp only [sm, Code.cells, wtL, T.wt, valWt, tl] at h
  exact ⟨by simp only [sml]; omega, by simp only [sml]; omega⟩
theorem sm_Frame {c : Frame} (h : sm c) : sml c.locals ∧ sml c.stack := by
  simp only [sm, Frame.cells, wtL, T.wt, valWt, tl] at h
  exact ⟨by simp only [sml]; omega, by simp only [sml]; omega⟩
theorem sm_Thread {c : Thread} (h : sm c) : sml c.frames := by
  simp only [sm, Thread.cells, wtL, T.wt, valWt, tl] at h
  simp only [sml]; omega
theorem sm_Object {c : Object} (h : sm c) : sml c.fields := by
  simp only [sm, Object.cells, wtL, T.wt, valWt, tl] at h
  simp only [sml]; omega
theorem sm_Memory {c : Memory} (h : sm c) : sml c.objects ∧ sml c.locks := by
  simp only [sm, Memory.cells, wtL, T.wt, valWt, tl] at h
  exact ⟨by simp only [sml]; omega, by simp only [sml]; omega⟩
def methodAt (p : List Kind) (k m : Int) : Option Code := match p[k.toNat]? with | some q => q.methods[m.toNat]? | none => none
def frameOk (p : List Kind) (f : Frame) : Bool := hasMethod p f.kind f.method && (match methodAt p f.kind f.method with | some c => decide (c.owner = f.kind) && inR f.pc 0 ((c.list.length : Int) - 1) && decide ((f.locals.length : Int) = c.locals) && decide ((f.stack.length : Int) ≤ 6) && valsOk f.locals && valsOk f.stack | none => false)
def threadOk (p : List Kind) (t : Thread) : Bool := allN (fun i => lk t.frames i (frameOk p)) t.frames.length 0 && (inR t.id 1 1000000 && decide ((t.frames.length : Int) ≤ 8) && (decide (0 < t.frames.length) || !decide (t.state = 0)) && inR t.state 0 5 && inR t.made 0 15)

def objAt (os : List Object) (id : Int) : Int := fidx (fun o => decide (o.id = id)) os 0
def readAt (os : List Object) (id k : Int) : Val × Bool := if objAt os id < 0 then (⟨false, 0⟩, false) else match os[(objAt os id).toNat]? with | some o => (if inR k 0 ((o.fields.length : Int) - 1) = true then (match o.fields[k.toNat]? with | some v => (v, true) | none => (⟨false, 0⟩, false)) else (⟨false, 0⟩, false)) | none => (⟨false, 0⟩, false)
theorem objAt_range (os : List Object) (id : Int) : objAt os id = -1 ∨ ∃ j : Nat, j < os.length ∧ objAt os id = (j : Int) := by
  rcases fidx_range (fun o : Object => decide (o.id = id)) os 0 with h | ⟨j, h, e, _⟩
  · exact .inl h
  · exact .inr ⟨j, h, by unfold objAt; rw [e]; simp⟩
theorem impl_objectAt_ok (os : List Object) (ls : List Lock) (id : Int) (hl : os.length ≤ 1000000000) : ret Γ n_impl_objectAt [.a [al os, al ls], ai id] = some [.o (.v (.int .i64 (objAt os id)))] := by
  refine ret_of g_impl_objectAt ?_
  generalize hR : objAt os id = R
  simp only [objAt] at hR
  simp [a_impl_objectAt, c_impl_objectAt]
  refine loop_ind (ι := Nat) (fun i => hd0 [(1, ai id), (8, al os), (9, ai os.length), (10, ai i)]) (fun i => os.length - i) (fun i => i ≤ os.length ∧ fidx (fun o : Object => decide (o.id = id)) (os.drop i) i = R) ?_ 0 ?_ _ ?_
  · intro i ⟨hi, hc⟩ ih
    by_cases hlt : i < os.length
    · rw [List.drop_eq_getElem_cons hlt, fidx_cons] at hc
      by_cases hw : os[i].id = id
      · simp only [hw, decide_true, if_true] at hc
        simp [hlt, hw, ← hc]
      · simp only [hw, decide_false, Bool.false_eq_true, if_false] at hc
        simp [hlt, hw]
        refine ih (i + 1) (by omega) ⟨by omega, hc⟩ _ ?_
        simp [wrap_nat (i := i) (by omega)]
    · obtain rfl : i = os.length := by omega
      simp [fidx] at hc
      simp [hc]
  · exact ⟨Nat.zero_le _, hR⟩
  · simp
theorem spec_l15At_ok (os : List Object) (ls : List Lock) (id : Int) (hl : os.length ≤ 1000000000) : ret Γ n_spec_l15At [.a [al os, al ls], ai id] = some [.o (.v (.int .i64 (objAt os id)))] := by
  refine ret_of g_spec_l15At ?_
  generalize hR : objAt os id = R
  simp only [objAt] at hR
  simp [a_spec_l15At, c_spec_l15At]
  refine loop_ind (ι := Nat) (fun i => hdb [(1, ai id), (2, .b (0, 1000000) 0), (5, ai i)] [[al os, al ls]] []) (fun i => os.length - i) (fun i => i ≤ os.length ∧ fidx (fun o : Object => decide (o.id = id)) (os.drop i) i = R) ?_ 0 ?_ _ ?_
  · intro i ⟨hi, hc⟩ ih
    by_cases hlt : i < os.length
    · rw [List.drop_eq_getElem_cons hlt, fidx_cons] at hc
      by_cases hw : os[i].id = id
      · simp only [hw, decide_true, if_true] at hc
        simp [hlt, hw, ← hc]
      · simp only [hw, decide_false, Bool.false_eq_true, if_false] at hc
        simp [hlt, hw]
        refine ih (i + 1) (by omega) ⟨by omega, hc⟩ _ ?_
        simp [wrap_nat (i := i) (by omega)]
    · obtain rfl : i = os.length := by omega
      simp [fidx] at hc
      simp [hc]
  · exact ⟨Nat.zero_le _, hR⟩
  · simp
theorem impl_Read_ok (os : List Object) (ls : List Lock) (id k : Int) (hs : sml os) : ret Γ n_impl_Read [.a [al os, al ls], ai id, ai k] = some [.a [.v (.bool (readAt os id k).1.ref), .v (.int .i64 (readAt os id k).1.n)], .o (.v (.bool (readAt os id k).2))] := by
  refine ret_of g_impl_Read ?_
  have hl := sml_len hs
  have e1 := impl_objectAt_ok os ls id hl
  have e2 := fun a b c => impl_within_ok a b c
  simp at e1 e2
  unfold readAt
  rcases objAt_range os id with h | ⟨j, hj, h⟩
  · rw [h] at e1
    simp [a_impl_Read, c_impl_Read, e1, h]
  rw [h] at e1
  have hn : ¬ (j : Int) < 0 := by omega
  have hf := sml_len (sm_Object (sml_get hs hj))
  have w1 : IntKind.i64.wrap ((os[j].fields.length : Int) - 1) = (os[j].fields.length : Int) - 1 := wrap_id (by omega) (by omega)
  simp only [h, Int.toNat_natCast, List.getElem?_eq_getElem hj]
  cases hA : inR k 0 ((os[j].fields.length : Int) - 1) with
  | false => simp [a_impl_Read, c_impl_Read, e1, e2, hj, hn, w1, hA]
  | true =>
  obtain ⟨i, rfl, hi⟩ := inR_nat hA
  simp [a_impl_Read, c_impl_Read, e1, e2, hj, hn, w1, hA, hi]
theorem spec_Read_ok (os : List Object) (ls : List Lock) (id k : Int) (hs : sml os) : ret Γ n_spec_Read [.a [al os, al ls], ai id, ai k] = some [.a [.v (.bool (readAt os id k).1.ref), .v (.int .i64 (readAt os id k).1.n)], .o (.v (.bool (readAt os id k).2))] := by
  refine ret_of g_spec_Read ?_
  have hl := sml_len hs
  have e1 := spec_l15At_ok os ls id hl
  have e2 := fun a b c => spec_l1In_ok a b c
  simp at e1 e2
  unfold readAt
  rcases objAt_range os id with h | ⟨j, hj, h⟩
  · rw [h] at e1
    simp [a_spec_Read, c_spec_Read, e1, h]
  rw [h] at e1
  have hn : ¬ (j : Int) < 0 := by omega
  have hf := sml_len (sm_Object (sml_get hs hj))
  have w1 : IntKind.i64.wrap ((os[j].fields.length : Int) - 1) = (os[j].fields.length : Int) - 1 := wrap_id (by omega) (by omega)
  simp only [h, Int.toNat_natCast, List.getElem?_eq_getElem hj]
  cases hA : inR k 0 ((os[j].fields.length : Int) - 1) with
  | false => simp [a_spec_Read, c_spec_Read, e1, e2, hj, hn, w1, hA]
  | true =>
  obtain ⟨i, rfl, hi⟩ := inR_nat hA
  simp [a_spec_Read, c_spec_Read, e1, e2, hj, hn, w1, hA, hi]
def typedAt (vs : List Val) (fs : List Field) (i : Nat) : Bool := match vs[i]?, fs[i]? with | some v, some f => v.ref == !decide (f.type = ⟨#[73]⟩) | _, _ => false
theorem typedAt_get {vs : List Val} {fs : List Field} {i : Nat} (h : i < vs.length) (h2 : i < fs.length) : typedAt vs fs i = (vs[i].ref == !decide (fs[i].type = ⟨#[73]⟩)) := by simp [typedAt, h, h2]
def valuesOk (p : List Kind) (k : Int) (vs : List Val) : Bool := inR k 0 ((p.length : Int) - 1) && (match p[k.toNat]? with | some q => decide (vs.length = q.fields.length) && (valsOk vs && allN (typedAt vs q.fields) vs.length 0) | none => false)
theorem allN_and (f g : Nat → Bool) : ∀ n i, allN (fun i => f i && g i) n i = (allN f n i && allN g n i)
  | 0, _ => rfl
  | n + 1, i => by
    simp only [allN, allN_and f g n (i + 1)]
    cases f i <;> cases g i <;> simp
def objOk (p : List Kind) (o : Object) : Bool := inR o.id 1 1000000 && valuesOk p o.cls o.fields

def upAt {α : Type} (g : α → Int) (xs : List α) (i : Nat) : Bool := if 0 < i then (match xs[i - 1]?, xs[i]? with | some a, some b => decide (g a < g b) | _, _ => false) else true
theorem upAt_pos {α : Type} (g : α → Int) {xs : List α} {i : Nat} (h : 0 < i) (h1 : i - 1 < xs.length) (h2 : i < xs.length) : upAt g xs i = decide (g xs[i - 1] < g xs[i]) := by simp [upAt, h, h1, h2]
theorem upAt_zero {α : Type} (g : α → Int) (xs : List α) {i : Nat} (h : ¬ 0 < i) : upAt g xs i = true := by simp [upAt, h]
theorem sm_Val (x : Val) : sm x := by
  simp only [sm, Val.cells, wtL, T.wt, valWt]; omega
def lockOk (os : List Object) (l : Lock) : Bool := !decide (objAt os l.id < 0) && inR l.who 1 1000000 && inR l.count 1 1000
def memOk (p : List Kind) (os : List Object) (ls : List Lock) : Bool := allN (fun i => lk os i (objOk p) && upAt (fun o => o.id) os i) os.length 0 && allN (fun i => lk ls i (lockOk os) && upAt (fun o => o.id) ls i) ls.length 0
theorem laws_FnExactRead_ok (m : Memory) (a : Int) (b : Int) (h_m : sm m) : ret Γ n_laws_FnExactRead [ag m, ai a, ai b] = some [.o (.v (.bool true))] := by
  have hm := (sm_Memory h_m).1
  have to_m := laws_toMemory_ok m h_m
  have eq_m := laws_eqMemory_ok m m h_m
  have e1 := impl_Read_ok m.objects m.locks a b hm
  have e2 := spec_Read_ok m.objects m.locks a b hm
  have e3 := laws_eqVal_ok (readAt m.objects a b).1 (readAt m.objects a b).1 (sm_Val _)
  refine ret_of g_laws_FnExactRead ?_
  simp at to_m eq_m e1 e2 e3
  obtain ⟨W_m, wp_m, z_m⟩ : ∃ W : Int, 0 ≤ W ∧ ret Γ n_laws_szMemory [ag m, ai ((1048576 : Int))] = some [.o (.v (.int .i64 (if (1048576 : Int) < W then -1 else (1048576 : Int) - W)))] := ⟨_, by omega, laws_szMemory_ok m ((1048576 : Int)) h_m (by omega)⟩
  simp at z_m
  by_cases c_m : (1048576 : Int) < W_m
  · simp only [c_m, if_true] at z_m
    simp [a_laws_FnExactRead, c_laws_FnExactRead, z_m]
  simp only [c_m, if_false] at z_m
  have q_m : ¬ (1048576 : Int) - W_m < 0 := by omega
  simp [a_laws_FnExactRead, c_laws_FnExactRead, z_m, q_m, to_m, eq_m, e1, e2, e3]
theorem laws_FnExactRead_law : LawTrue Γ n_laws_FnExactRead [.struct [(.slice (.struct [.int .i64, .int .i64, (.slice (.struct [.bool, .int .i64]))])), (.slice (.struct [.int .i64, .int .i64, .int .i64]))], .int .i64, .int .i64] 1048576 := by
  intro args h hw
  obtain ⟨_, _, rfl, h0, h⟩ := args_cons h
  obtain ⟨_, _, rfl, h1, h⟩ := args_cons h
  obtain ⟨_, _, rfl, h2, h⟩ := args_cons h
  obtain rfl := args_nil h
  obtain ⟨m, rfl, l0⟩ := arg_struct (α := Memory) rfl h0
  obtain ⟨a, rfl, _⟩ := arg_int h1
  obtain ⟨b, rfl, _⟩ := arg_int h2
  simp only [svsWt] at hw
  exact law_of_ret (laws_FnExactRead_ok m a b (by unfold sm; omega))


end AM
