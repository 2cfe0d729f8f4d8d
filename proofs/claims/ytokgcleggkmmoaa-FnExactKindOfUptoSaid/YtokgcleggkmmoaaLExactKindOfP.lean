/- What each function of FnExactKindOf comes to. -/
import Derived.Test.YtokgcleggkmmoaaLExactKindOfC
set_option linter.unusedVariables false
set_option linter.unusedSimpArgs false
namespace AM
open Go
set_option maxRecDepth 100000
instance : Enc ByteArray where
  sz := 1
  cells _ s := [.v (.string s)]
  len _ _ := rfl
  fz _ _ := rfl
  own _ := rfl
  pos := by decide
@[simp] theorem bytes_cells (o : Bool) (s : ByteArray) : Enc.cells o s = [.v (.string s)] := rfl
@[simp] theorem bytes_sz : Enc.sz ByteArray = 1 := rfl
instance : Dec ByteArray where
  ty := .str
  tysz := rfl
  dec ts h := by
    obtain ⟨s, rfl⟩ := mem_str.1 h
    exact ⟨s, rfl⟩
theorem laws_toStringS_ok (xs : List ByteArray) (h : sml xs) : ret Γ n_laws_toStringS [al xs] = some [.o (tl true xs)] := by
  have hl := sml_len h
  have hlim : xs.length * 2 ≤ LIM := Nat.le_trans (Nat.mul_le_mul_right 2 hl) (by decide)
  refine ret_of g_laws_toStringS ?_
  simp [a_laws_toStringS, c_laws_toStringS, hlim]
  refine loop_ind (ι := Nat) (fun i => ⟨upd (upd (upd (fun _ => .u) 4 (ai i)) 3 (.r (0, 1000000) [] 1 0 xs.length)) 0 (al xs), cbx [] (fun _ => none), ch [some (.l true 1 (fill xs [.v (.string ByteArray.empty)] i))] (fun _ => none)⟩) (fun i => xs.length - i) (fun i => i ≤ xs.length) ?_ 0 ?_ _ ?_
  · intro i hi ih
    by_cases hlt : i < xs.length
    · have hs := fill_set xs [.v (.string ByteArray.empty)] hlt
      simp at hs
      simp [hlt, fill_get xs _ hlt]
      refine ih (i + 1) (by omega) (by omega) _ ?_
      simp [wrap_nat (i := i) (by omega), hs]
    · obtain rfl : i = xs.length := by omega
      simp [fill_len, fill_all]
  · simp
  · simp [fill_0]
theorem laws_eqStringS_ok (xs ys : List ByteArray) (h : sml xs) : ret Γ n_laws_eqStringS [al xs, al ys] = some [.o (.v (.bool (decide (xs = ys))))] := by
  have hl := sml_len h
  refine ret_of g_laws_eqStringS ?_
  simp [a_laws_eqStringS, c_laws_eqStringS]
  split
  · rename_i hlen
    have hlen : xs.length = ys.length := by omega
    refine loop_ind (ι := Nat) (fun i => ⟨upd (upd (upd (fun _ => .u) 5 (ai i)) 1 (al ys)) 0 (al xs), cbx [] (fun _ => none), ch [] (fun _ => none)⟩) (fun i => xs.length - i) (fun i => i ≤ xs.length ∧ (decide (xs.drop i = ys.drop i) = decide (xs = ys))) ?_ 0 ?_ _ ?_
    · intro i ⟨hi, he⟩ ih
      by_cases hlt : i < xs.length
      · have hlt2 : i < ys.length := by omega
        rw [List.drop_eq_getElem_cons hlt, List.drop_eq_getElem_cons hlt2] at he
        simp [hlt, hlt2]
        split
        · rename_i hw
          refine ih (i + 1) (by omega) ⟨by omega, by simpa only [List.cons.injEq, hw, true_and] using he⟩ _ ?_
          simp [wrap_nat (i := i) (by omega)]
        · rename_i hw
          simp only [List.cons.injEq, hw, false_and, decide_false] at he
          simpa using he.symm
      · obtain rfl : i = xs.length := by omega
        simp [hlen] at he
        simp [he]
    · simp
    · simp
  · rename_i hlen
    intro e
    exact hlen (by rw [e])
theorem laws_szStringS_ok (xs : List ByteArray) (left : Int) (hs : sml xs) (h : 0 ≤ left ∧ left ≤ 1048576) : ret Γ n_laws_szStringS [al xs, ai left] = some [.o (.v (.int .i64 (if left < ((xs.length + wsum ByteArray.size xs : Nat) : Int) then -1 else left - ((xs.length + wsum ByteArray.size xs : Nat) : Int))))] := by
  have hl := sml_len hs
  refine ret_of g_laws_szStringS ?_
  simp [a_laws_szStringS, c_laws_szStringS]
  generalize hR : (if left < (xs.length : Int) + (wsum ByteArray.size xs : Nat) then (-1 : Int) else left - ((xs.length : Int) + (wsum ByteArray.size xs : Nat))) = R
  rw [wrap_id (by omega) (by omega)]
  split
  · intros; omega
  · refine loop_ind (ι := Nat × Int) (fun x => ⟨upd (upd (upd (fun _ => .u) 5 (ai x.1)) 1 (ai x.2)) 0 (al xs), cbx [] (fun _ => none), ch [] (fun _ => none)⟩) (fun x => xs.length - x.1)
      (fun x => x.1 ≤ xs.length ∧ 0 ≤ x.2 ∧ x.2 ≤ 1048576 ∧ (if x.2 < (wsum ByteArray.size (xs.drop x.1) : Nat) then (-1 : Int) else x.2 - (wsum ByteArray.size (xs.drop x.1) : Nat)) = R) ?_ (0, left - xs.length) ?_ _ ?_
    · rintro ⟨i, l⟩ ⟨hi, h0, h1, he⟩ ih
      simp only at hi h0 h1 he
      by_cases hlt : i < xs.length
      · have e1 : wsum ByteArray.size (xs.drop i) = xs[i].size + wsum ByteArray.size (xs.drop (i + 1)) := by rw [List.drop_eq_getElem_cons hlt]; simp only [wsum, List.map_cons, List.sum_cons]
        rw [e1] at he
        have hsz : xs[i].size ≤ 1000000000 := by
          have := sml_get hs hlt
          simp [sm, wtL, T.wt, valWt] at this
          omega
        have hwr : IntKind.i64.wrap (l - (xs[i].size : Int)) = l - (xs[i].size : Int) := wrap_id (by omega) (by omega)
        simp [hlt, hwr]
        by_cases hw : l - (xs[i].size : Int) < 0
        · simp [hw]
          rw [← he, if_pos (by omega)]
        · simp only [hw, if_false]
          refine ih (i + 1, l - xs[i].size) (by simp only; omega) ⟨by simp only; omega, by simp only; omega, by simp only; omega, ?_⟩ _ ?_
          · simp only
            rw [← he]
            split <;> split <;> omega
          · simp [wrap_nat (i := i) (by omega)]
      · obtain rfl : i = xs.length := by omega
        simp [wsum] at he
        simp
        rw [← he, if_neg (by omega)]
    · refine ⟨by simp, by simp only; omega, by simp only; omega, ?_⟩
      rw [← hR]
      simp only [List.drop_zero]
      split <;> split <;> omega
    · simp

structure Stamp where
  who : Int
  n : Int
  deriving DecidableEq
instance : Enc Stamp where
  sz := 2
  cells o x := [.v (.int .i64 x.who), .v (.int .i64 x.n)]
  len _ _ := rfl
  fz o x := by simp
  own x := by simp
  pos := by decide
@[simp] theorem Stamp.cells (o : Bool) (x : Stamp) : Enc.cells o x = [.v (.int .i64 x.who), .v (.int .i64 x.n)] := rfl
@[simp] theorem Stamp.sz : Enc.sz Stamp = 2 := rfl
instance : Dec Stamp where
  ty := .struct [.int .i64, .int .i64]
  tysz := rfl
  dec ts h := by
    have h := mem_struct.1 h
    obtain ⟨a0, r0, rfl, m0, h⟩ := memL_cons.1 h
    obtain ⟨a1, r1, rfl, m1, h⟩ := memL_cons.1 h
    obtain rfl := memL_nil.1 h
    obtain ⟨x_who, rfl, _⟩ := mem_int.1 m0
    obtain ⟨x_n, rfl, _⟩ := mem_int.1 m1
    exact ⟨⟨x_who, x_n⟩, rfl⟩
structure Val where
  ref : Bool
  n : Int
  deriving DecidableEq
instance : Enc Val where
  sz := 2
  cells o x := [.v (.bool x.ref), .v (.int .i64 x.n)]
  len _ _ := rfl
  fz o x := by simp
  own x := by simp
  pos := by decide
@[simp] theorem Val.cells (o : Bool) (x : Val) : Enc.cells o x = [.v (.bool x.ref), .v (.int .i64 x.n)] := rfl
@[simp] theorem Val.sz : Enc.sz Val = 2 := rfl
instance : Dec Val where
  ty := .struct [.bool, .int .i64]
  tysz := rfl
  dec ts h := by
    have h := mem_struct.1 h
    obtain ⟨a0, r0, rfl, m0, h⟩ := memL_cons.1 h
    obtain ⟨a1, r1, rfl, m1, h⟩ := memL_cons.1 h
    obtain rfl := memL_nil.1 h
    obtain ⟨x_ref, rfl⟩ := mem_bool.1 m0
    obtain ⟨x_n, rfl, _⟩ := mem_int.1 m1
    exact ⟨⟨x_ref, x_n⟩, rfl⟩
structure Lock where
  id : Int
  who : Int
  count : Int
  deriving DecidableEq
instance : Enc Lock where
  sz := 3
  cells o x := [.v (.int .i64 x.id), .v (.int .i64 x.who), .v (.int .i64 x.count)]
  len _ _ := rfl
  fz o x := by simp
  own x := by simp
  pos := by decide
@[simp] theorem Lock.cells (o : Bool) (x : Lock) : Enc.cells o x = [.v (.int .i64 x.id), .v (.int .i64 x.who), .v (.int .i64 x.count)] := rfl
@[simp] theorem Lock.sz : Enc.sz Lock = 3 := rfl
instance : Dec Lock where
  ty := .struct [.int .i64, .int .i64, .int .i64]
  tysz := rfl
  dec ts h := by
    have h := mem_struct.1 h
    obtain ⟨a0, r0, rfl, m0, h⟩ := memL_cons.1 h
    obtain ⟨a1, r1, rfl, m1, h⟩ := memL_cons.1 h
    obtain ⟨a2, r2, rfl, m2, h⟩ := memL_cons.1 h
    obtain rfl := memL_nil.1 h
    obtain ⟨x_id, rfl, _⟩ := mem_int.1 m0
    obtain ⟨x_who, rfl, _⟩ := mem_int.1 m1
    obtain ⟨x_count, rfl, _⟩ := mem_int.1 m2
    exact ⟨⟨x_id, x_who, x_count⟩, rfl⟩
structure Object where
  id : Int
  cls : Int
  fields : List Val
  deriving DecidableEq
instance : Enc Object where
  sz := 3
  cells o x := [.v (.int .i64 x.id), .v (.int .i64 x.cls), tl o x.fields]
  len _ _ := rfl
  fz o x := by simp
  own x := by simp
  pos := by decide
@[simp] theorem Object.cells (o : Bool) (x : Object) : Enc.cells o x = [.v (.int .i64 x.id), .v (.int .i64 x.cls), tl o x.fields] := rfl
@[simp] theorem Object.sz : Enc.sz Object = 3 := rfl
instance : Dec Object where
  ty := .struct [.int .i64, .int .i64, .slice (.struct [.bool, .int .i64])]
  tysz := rfl
  dec ts h := by
    have h := mem_struct.1 h
    obtain ⟨a0, r0, rfl, m0, h⟩ := memL_cons.1 h
    obtain ⟨a1, r1, rfl, m1, h⟩ := memL_cons.1 h
    obtain ⟨a2, r2, rfl, m2, h⟩ := memL_cons.1 h
    obtain rfl := memL_nil.1 h
    obtain ⟨x_id, rfl, _⟩ := mem_int.1 m0
    obtain ⟨x_cls, rfl, _⟩ := mem_int.1 m1
    obtain ⟨x_fields, rfl⟩ := dec_list2 (α := Val) m2
    exact ⟨⟨x_id, x_cls, x_fields⟩, rfl⟩
def Object.w (x : Object) : Nat := x.fields.length
structure Memory where
  objects : List Object
  locks : List Lock
  deriving DecidableEq
instance : Enc Memory where
  sz := 2
  cells o x := [tl o x.objects, tl o x.locks]
  len _ _ := rfl
  fz o x := by simp
  own x := by simp
  pos := by decide
@[simp] theorem Memory.cells (o : Bool) (x : Memory) : Enc.cells o x = [tl o x.objects, tl o x.locks] := rfl
@[simp] theorem Memory.sz : Enc.sz Memory = 2 := rfl
instance : Dec Memory where
  ty := .struct [.slice (.struct [.int .i64, .int .i64, .slice (.struct [.bool, .int .i64])]), .slice (.struct [.int .i64, .int .i64, .int .i64])]
  tysz := rfl
  dec ts h := by
    have h := mem_struct.1 h
    obtain ⟨a0, r0, rfl, m0, h⟩ := memL_cons.1 h
    obtain ⟨a1, r1, rfl, m1, h⟩ := memL_cons.1 h
    obtain rfl := memL_nil.1 h
    obtain ⟨x_objects, rfl⟩ := dec_list2 (α := Object) m0
    obtain ⟨x_locks, rfl⟩ := dec_list2 (α := Lock) m1
    exact ⟨⟨x_objects, x_locks⟩, rfl⟩
def Memory.w (x : Memory) : Nat := (x.objects.length + wsum Object.w x.objects) + x.locks.length
structure Frame where
  kind : Int
  method : Int
  pc : Int
  locals : List Val
  stack : List Val
  deriving DecidableEq
instance : Enc Frame where
  sz := 5
  cells o x := [.v (.int .i64 x.kind), .v (.int .i64 x.method), .v (.int .i64 x.pc), tl o x.locals, tl o x.stack]
  len _ _ := rfl
  fz o x := by simp
  own x := by simp
  pos := by decide
@[simp] theorem Frame.cells (o : Bool) (x : Frame) : Enc.cells o x = [.v (.int .i64 x.kind), .v (.int .i64 x.method), .v (.int .i64 x.pc), tl o x.locals, tl o x.stack] := rfl
@[simp] theorem Frame.sz : Enc.sz Frame = 5 := rfl
instance : Dec Frame where
  ty := .struct [.int .i64, .int .i64, .int .i64, .slice (.struct [.bool, .int .i64]), .slice (.struct [.bool, .int .i64])]
  tysz := rfl
  dec ts h := by
    have h := mem_struct.1 h
    obtain ⟨a0, r0, rfl, m0, h⟩ := memL_cons.1 h
    obtain ⟨a1, r1, rfl, m1, h⟩ := memL_cons.1 h
    obtain ⟨a2, r2, rfl, m2, h⟩ := memL_cons.1 h
    obtain ⟨a3, r3, rfl, m3, h⟩ := memL_cons.1 h
    obtain ⟨a4, r4, rfl, m4, h⟩ := memL_cons.1 h
    obtain rfl := memL_nil.1 h
    obtain ⟨x_kind, rfl, _⟩ := mem_int.1 m0
    obtain ⟨x_method, rfl, _⟩ := mem_int.1 m1
    obtain ⟨x_pc, rfl, _⟩ := mem_int.1 m2
    obtain ⟨x_locals, rfl⟩ := dec_list2 (α := Val) m3
    obtain ⟨x_stack, rfl⟩ := dec_list2 (α := Val) m4
    exact ⟨⟨x_kind, x_method, x_pc, x_locals, x_stack⟩, rfl⟩
def Frame.w (x : Frame) : Nat := x.locals.length + x.stack.length
structure Thread where
  id : Int
  frames : List Frame
  state : Int
  made : Int
  deriving DecidableEq
instance : Enc Thread where
  sz := 4
  cells o x := [.v (.int .i64 x.id), tl o x.frames, .v (.int .i64 x.state), .v (.int .i64 x.made)]
  len _ _ := rfl
  fz o x := by simp
  own x := by simp
  pos := by decide
@[simp] theorem Thread.cells (o : Bool) (x : Thread) : Enc.cells o x = [.v (.int .i64 x.id), tl o x.frames, .v (.int .i64 x.state), .v (.int .i64 x.made)] := rfl
@[simp] theorem Thread.sz : Enc.sz Thread = 4 := rfl
instance : Dec Thread where
  ty := .struct [.int .i64, .slice (.struct [.int .i64, .int .i64, .int .i64, .slice (.struct [.bool, .int .i64]), .slice (.struct [.bool, .int .i64])]), .int .i64, .int .i64]
  tysz := rfl
  dec ts h := by
    have h := mem_struct.1 h
    obtain ⟨a0, r0, rfl, m0, h⟩ := memL_cons.1 h
    obtain ⟨a1, r1, rfl, m1, h⟩ := memL_cons.1 h
    obtain ⟨a2, r2, rfl, m2, h⟩ := memL_cons.1 h
    obtain ⟨a3, r3, rfl, m3, h⟩ := memL_cons.1 h
    obtain rfl := memL_nil.1 h
    obtain ⟨x_id, rfl, _⟩ := mem_int.1 m0
    obtain ⟨x_frames, rfl⟩ := dec_list2 (α := Frame) m1
    obtain ⟨x_state, rfl, _⟩ := mem_int.1 m2
    obtain ⟨x_made, rfl, _⟩ := mem_int.1 m3
    exact ⟨⟨x_id, x_frames, x_state, x_made⟩, rfl⟩
def Thread.w (x : Thread) : Nat := (x.frames.length + wsum Frame.w x.frames)
structure Ins where
  op : Int
  n : Int
  deriving DecidableEq
instance : Enc Ins where
  sz := 2
  cells o x := [.v (.int .i64 x.op), .v (.int .i64 x.n)]
  len _ _ := rfl
  fz o x := by simp
  own x := by simp
  pos := by decide
@[simp] theorem Ins.cells (o : Bool) (x : Ins) : Enc.cells o x = [.v (.int .i64 x.op), .v (.int .i64 x.n)] := rfl
@[simp] theorem Ins.sz : Enc.sz Ins = 2 := rfl
instance : Dec Ins where
  ty := .struct [.int .i64, .int .i64]
  tysz := rfl
  dec ts h := by
    have h := mem_struct.1 h
    obtain ⟨a0, r0, rfl, m0, h⟩ := memL_cons.1 h
    obtain ⟨a1, r1, rfl, m1, h⟩ := memL_cons.1 h
    obtain rfl := memL_nil.1 h
    obtain ⟨x_op, rfl, _⟩ := mem_int.1 m0
    obtain ⟨x_n, rfl, _⟩ := mem_int.1 m1
    exact ⟨⟨x_op, x_n⟩, rfl⟩
theorem laws_toIns_ok (x : Ins) (h : sm x) : ret Γ n_laws_toIns [ag x] = some [.a (Enc.cells true x)] := by
  obtain ⟨x_op, x_n⟩ := x
  refine ret_of g_laws_toIns ?_
  simp [a_laws_toIns, c_laws_toIns]
theorem laws_eqIns_ok (x y : Ins) (h : sm x) : ret Γ n_laws_eqIns [ag x, ag y] = some [.o (.v (.bool (decide (x = y))))] := by
  obtain ⟨x_op, x_n⟩ := x
  obtain ⟨y_op, y_n⟩ := y
  refine ret_of g_laws_eqIns ?_
  simp [a_laws_eqIns, c_laws_eqIns]
  by_cases h0 : x_op = y_op
  rotate_left
  · simp [h0]
  by_cases h1 : x_n = y_n
  rotate_left
  · simp [h0, h1]
  simp [h0, h1]
theorem laws_toInsS_ok (xs : List Ins) (h : sml xs) : ret Γ n_laws_toInsS [al xs] = some [.o (tl true xs)] := tos_gen [.v (.int .i64 0), .v (.int .i64 0)] rfl g_laws_toInsS (fun _ => rfl) laws_toIns_ok xs h (by decide)
theorem laws_eqInsS_ok (xs ys : List Ins) (h : sml xs) : ret Γ n_laws_eqInsS [al xs, al ys] = some [.o (.v (.bool (decide (xs = ys))))] := eqS_gen g_laws_eqInsS laws_eqIns_ok xs ys h
theorem laws_szInsS_ok (xs : List Ins) (left : Int) (h : sml xs) (hl : 0 ≤ left ∧ left ≤ 1048576) : ret Γ n_laws_szInsS [al xs, ai left] = some [.o (.v (.int .i64 (if left < xs.length then -1 else left - xs.length)))] := sz0_gen g_laws_szInsS xs left h hl
structure Const where
  kind : Int
  n : Int
  a : ByteArray
  b : ByteArray
  deriving DecidableEq
instance : Enc Const where
  sz := 4
  cells o x := [.v (.int .i64 x.kind), .v (.int .i64 x.n), .v (.string x.a), .v (.string x.b)]
  len _ _ := rfl
  fz o x := by simp
  own x := by simp
  pos := by decide
@[simp] theorem Const.cells (o : Bool) (x : Const) : Enc.cells o x = [.v (.int .i64 x.kind), .v (.int .i64 x.n), .v (.string x.a), .v (.string x.b)] := rfl
@[simp] theorem Const.sz : Enc.sz Const = 4 := rfl
instance : Dec Const where
  ty := .struct [.int .i64, .int .i64, .str, .str]
  tysz := rfl
  dec ts h := by
    have h := mem_struct.1 h
    obtain ⟨a0, r0, rfl, m0, h⟩ := memL_cons.1 h
    obtain ⟨a1, r1, rfl, m1, h⟩ := memL_cons.1 h
    obtain ⟨a2, r2, rfl, m2, h⟩ := memL_cons.1 h
    obtain ⟨a3, r3, rfl, m3, h⟩ := memL_cons.1 h
    obtain rfl := memL_nil.1 h
    obtain ⟨x_kind, rfl, _⟩ := mem_int.1 m0
    obtain ⟨x_n, rfl, _⟩ := mem_int.1 m1
    obtain ⟨x_a, rfl⟩ := mem_str.1 m2
    obtain ⟨x_b, rfl⟩ := mem_str.1 m3
    exact ⟨⟨x_kind, x_n, x_a, x_b⟩, rfl⟩
def Const.w (x : Const) : Nat := x.a.size + x.b.size
theorem laws_toConst_ok (x : Const) (h : sm x) : ret Γ n_laws_toConst [ag x] = some [.a (Enc.cells true x)] := by
  obtain ⟨x_kind, x_n, x_a, x_b⟩ := x
  refine ret_of g_laws_toConst ?_
  simp [a_laws_toConst, c_laws_toConst]
theorem laws_eqConst_ok (x y : Const) (h : sm x) : ret Γ n_laws_eqConst [ag x, ag y] = some [.o (.v (.bool (decide (x = y))))] := by
  obtain ⟨x_kind, x_n, x_a, x_b⟩ := x
  obtain ⟨y_kind, y_n, y_a, y_b⟩ := y
  refine ret_of g_laws_eqConst ?_
  simp [a_laws_eqConst, c_laws_eqConst]
  by_cases h0 : x_kind = y_kind
  rotate_left
  · simp [h0]
  by_cases h1 : x_n = y_n
  rotate_left
  · simp [h0, h1]
  by_cases h2 : x_a = y_a
  rotate_left
  · simp [h0, h1, h2]
  by_cases h3 : x_b = y_b
  rotate_left
  · simp [h0, h1, h2, h3]
  simp [h0, h1, h2, h3]
theorem laws_szConst_ok (x : Const) (left : Int) (h : sm x) (hl : 0 ≤ left ∧ left ≤ 1048576) : ret Γ n_laws_szConst [ag x, ai left] = some [.o (.v (.int .i64 (if left < (Const.w x : Nat) then -1 else left - (Const.w x : Nat))))] := by
  obtain ⟨x_kind, x_n, x_a, x_b⟩ := x
  simp only [sm, Const.cells, wtL, T.wt, valWt, tl] at h
  suffices key : ∀ R : Int, (left < ((x_a.size + x_b.size : Nat) : Int) → R = -1) → (¬ left < ((x_a.size + x_b.size : Nat) : Int) → R = left - ((x_a.size + x_b.size : Nat) : Int)) → ret Γ n_laws_szConst [ag (⟨x_kind, x_n, x_a, x_b⟩ : Const), ai left] = some [.o (.v (.int .i64 R))] from key _ (fun h => if_pos h) (fun h => if_neg h)
  intro R hA hB
  refine ret_of g_laws_szConst ?_
  have b0 : IntKind.i64.wrap (left - (x_a.size : Int)) = left - (x_a.size : Int) := wrap_id (by omega) (by omega)
  by_cases h0 : left < ((x_a.size : Nat) : Int)
  · simp [a_laws_szConst, c_laws_szConst, b0, (show left - (x_a.size : Int) < 0 by omega)]
    rw [hA (by omega)]
  have p0 : ¬ left - (x_a.size : Int) < 0 := by omega
  have b1 : IntKind.i64.wrap (left - (x_a.size : Int) - (x_b.size : Int)) = left - (x_a.size : Int) - (x_b.size : Int) := wrap_id (by omega) (by omega)
  by_cases h1 : left - (x_a.size : Int) < ((x_b.size : Nat) : Int)
  · simp [a_laws_szConst, c_laws_szConst, b0, p0, b1, (show left - (x_a.size : Int) - (x_b.size : Int) < 0 by omega)]
    rw [hA (by omega)]
  have p1 : ¬ left - (x_a.size : Int) - (x_b.size : Int) < 0 := by omega
  simp [a_laws_szConst, c_laws_szConst, b0, p0, b1, p1]
  all_goals first
    | (rw [hB (by omega)]; done)
    | (rw [hB (by omega)]; omega)
theorem laws_toConstS_ok (xs : List Const) (h : sml xs) : ret Γ n_laws_toConstS [al xs] = some [.o (tl true xs)] := tos_gen [.v (.int .i64 0), .v (.int .i64 0), .v (.string ByteArray.empty), .v (.string ByteArray.empty)] rfl g_laws_toConstS (fun _ => rfl) laws_toConst_ok xs h (by decide)
theorem laws_eqConstS_ok (xs ys : List Const) (h : sml xs) : ret Γ n_laws_eqConstS [al xs, al ys] = some [.o (.v (.bool (decide (xs = ys))))] := eqS_gen g_laws_eqConstS laws_eqConst_ok xs ys h
theorem laws_szConstS_ok (xs : List Const) (left : Int) (h : sml xs) (hl : 0 ≤ left ∧ left ≤ 1048576) : ret Γ n_laws_szConstS [al xs, ai left] = some [.o (.v (.int .i64 (if left < ((xs.length + wsum Const.w xs : Nat) : Int) then -1 else left - ((xs.length + wsum Const.w xs : Nat) : Int))))] := szS_gen Const.w g_laws_szConstS laws_szConst_ok xs left h hl
structure Field where
  name : ByteArray
  type : ByteArray
  deriving DecidableEq
instance : Enc Field where
  sz := 2
  cells o x := [.v (.string x.name), .v (.string x.type)]
  len _ _ := rfl
  fz o x := by simp
  own x := by simp
  pos := by decide
@[simp] theorem Field.cells (o : Bool) (x : Field) : Enc.cells o x = [.v (.string x.name), .v (.string x.type)] := rfl
@[simp] theorem Field.sz : Enc.sz Field = 2 := rfl
instance : Dec Field where
  ty := .struct [.str, .str]
  tysz := rfl
  dec ts h := by
    have h := mem_struct.1 h
    obtain ⟨a0, r0, rfl, m0, h⟩ := memL_cons.1 h
    obtain ⟨a1, r1, rfl, m1, h⟩ := memL_cons.1 h
    obtain rfl := memL_nil.1 h
    obtain ⟨x_name, rfl⟩ := mem_str.1 m0
    obtain ⟨x_type, rfl⟩ := mem_str.1 m1
    exact ⟨⟨x_name, x_type⟩, rfl⟩
def Field.w (x : Field) : Nat := x.name.size + x.type.size
theorem laws_toField_ok (x : Field) (h : sm x) : ret Γ n_laws_toField [ag x] = some [.a (Enc.cells true x)] := by
  obtain ⟨x_name, x_type⟩ := x
  refine ret_of g_laws_toField ?_
  simp [a_laws_toField, c_laws_toField]
theorem laws_eqField_ok (x y : Field) (h : sm x) : ret Γ n_laws_eqField [ag x, ag y] = some [.o (.v (.bool (decide (x = y))))] := by
  obtain ⟨x_name, x_type⟩ := x
  obtain ⟨y_name, y_type⟩ := y
  refine ret_of g_laws_eqField ?_
  simp [a_laws_eqField, c_laws_eqField]
  by_cases h0 : x_name = y_name
  rotate_left
  · simp [h0]
  by_cases h1 : x_type = y_type
  rotate_left
  · simp [h0, h1]
  simp [h0, h1]
theorem laws_szField_ok (x : Field) (left : Int) (h : sm x) (hl : 0 ≤ left ∧ left ≤ 1048576) : ret Γ n_laws_szField [ag x, ai left] = some [.o (.v (.int .i64 (if left < (Field.w x : Nat) then -1 else left - (Field.w x : Nat))))] := by
  obtain ⟨x_name, x_type⟩ := x
  simp only [sm, Field.cells, wtL, T.wt, valWt, tl] at h
  suffices key : ∀ R : Int, (left < ((x_name.size + x_type.size : Nat) : Int) → R = -1) → (¬ left < ((x_name.size + x_type.size : Nat) : Int) → R = left - ((x_name.size + x_type.size : Nat) : Int)) → ret Γ n_laws_szField [ag (⟨x_name, x_type⟩ : Field), ai left] = some [.o (.v (.int .i64 R))] from key _ (fun h => if_pos h) (fun h => if_neg h)
  intro R hA hB
  refine ret_of g_laws_szField ?_
  have b0 : IntKind.i64.wrap (left - (x_name.size : Int)) = left - (x_name.size : Int) := wrap_id (by omega) (by omega)
  by_cases h0 : left < ((x_name.size : Nat) : Int)
  · simp [a_laws_szField, c_laws_szField, b0, (show left - (x_name.size : Int) < 0 by omega)]
    rw [hA (by omega)]
  have p0 : ¬ left - (x_name.size : Int) < 0 := by omega
  have b1 : IntKind.i64.wrap (left - (x_name.size : Int) - (x_type.size : Int)) = left - (x_name.size : Int) - (x_type.size : Int) := wrap_id (by omega) (by omega)
  by_cases h1 : left - (x_name.size : Int) < ((x_type.size : Nat) : Int)
  · simp [a_laws_szField, c_laws_szField, b0, p0, b1, (show left - (x_name.size : Int) - (x_type.size : Int) < 0 by omega)]
    rw [hA (by omega)]
  have p1 : ¬ left - (x_name.size : Int) - (x_type.size : Int) < 0 := by omega
  simp [a_laws_szField, c_laws_szField, b0, p0, b1, p1]
  all_goals first
    | (rw [hB (by omega)]; done)
    | (rw [hB (by omega)]; omega)
theorem laws_toFieldS_ok (xs : List Field) (h : sml xs) : ret Γ n_laws_toFieldS [al xs] = some [.o (tl true xs)] := tos_gen [.v (.string ByteArray.empty), .v (.string ByteArray.empty)] rfl g_laws_toFieldS (fun _ => rfl) laws_toField_ok xs h (by decide)
theorem laws_eqFieldS_ok (xs ys : List Field) (h : sml xs) : ret Γ n_laws_eqFieldS [al xs, al ys] = some [.o (.v (.bool (decide (xs = ys))))] := eqS_gen g_laws_eqFieldS laws_eqField_ok xs ys h
theorem laws_szFieldS_ok (xs : List Field) (left : Int) (h : sml xs) (hl : 0 ≤ left ∧ left ≤ 1048576) : ret Γ n_laws_szFieldS [al xs, ai left] = some [.o (.v (.int .i64 (if left < ((xs.length + wsum Field.w xs : Nat) : Int) then -1 else left - ((xs.length + wsum Field.w xs : Nat) : Int))))] := szS_gen Field.w g_laws_szFieldS laws_szField_ok xs left h hl
structure Code where
  name : ByteArray
  owner : Int
  params : List ByteArray
  result : ByteArray
  locals : Int
  list : List Ins
  deriving DecidableEq
instance : Enc Code where
  sz := 6
  cells o x := [.v (.string x.name), .v (.int .i64 x.owner), tl o x.params, .v (.string x.result), .v (.int .i64 x.locals), tl o x.list]
  len _ _ := rfl
  fz o x := by simp
  own x := by simp
  pos := by decide
@[simp] theorem Code.cells (o : Bool) (x : Code) : Enc.cells o x = [.v (.string x.name), .v (.int .i64 x.owner), tl o x.params, .v (.string x.result), .v (.int .i64 x.locals), tl o x.list] := rfl
@[simp] theorem Code.sz : Enc.sz Code = 6 := rfl
instance : Dec Code where
  ty := .struct [.str, .int .i64, .slice .str, .str, .int .i64, .slice (.struct [.int .i64, .int .i64])]
  tysz := rfl
  dec ts h := by
    have h := mem_struct.1 h
    obtain ⟨a0, r0, rfl, m0, h⟩ := memL_cons.1 h
    obtain ⟨a1, r1, rfl, m1, h⟩ := memL_cons.1 h
    obtain ⟨a2, r2, rfl, m2, h⟩ := memL_cons.1 h
    obtain ⟨a3, r3, rfl, m3, h⟩ := memL_cons.1 h
    obtain ⟨a4, r4, rfl, m4, h⟩ := memL_cons.1 h
    obtain ⟨a5, r5, rfl, m5, h⟩ := memL_cons.1 h
    obtain rfl := memL_nil.1 h
    obtain ⟨x_name, rfl⟩ := mem_str.1 m0
    obtain ⟨x_owner, rfl, _⟩ := mem_int.1 m1
    obtain ⟨x_params, rfl⟩ := dec_list2 (α := ByteArray) m2
    obtain ⟨x_result, rfl⟩ := mem_str.1 m3
    obtain ⟨x_locals, rfl, _⟩ := mem_int.1 m4
    obtain ⟨x_list, rfl⟩ := dec_list2 (α := Ins) m5
    exact ⟨⟨x_name, x_owner, x_params, x_result, x_locals, x_list⟩, rfl⟩
def Code.w (x : Code) : Nat := x.name.size + (x.params.length + wsum ByteArray.size x.params) + x.result.size + x.list.length
theorem laws_toCode_ok (x : Code) (h : sm x) : ret Γ n_laws_toCode [ag x] = some [.a (Enc.cells true x)] := by
  obtain ⟨x_name, x_owner, x_params, x_result, x_locals, x_list⟩ := x
  simp only [sm, Code.cells, wtL, T.wt, valWt, tl] at h
  have e2 := laws_toStringS_ok x_params (by simp only [sml]; omega)
  simp at e2
  have e5 := laws_toInsS_ok x_list (by simp only [sml]; omega)
  simp at e5
  refine ret_of g_laws_toCode ?_
  simp [a_laws_toCode, c_laws_toCode, e2, e5]
theorem laws_eqCode_ok (x y : Code) (h : sm x) : ret Γ n_laws_eqCode [ag x, ag y] = some [.o (.v (.bool (decide (x = y))))] := by
  obtain ⟨x_name, x_owner, x_params, x_result, x_locals, x_list⟩ := x
  obtain ⟨y_name, y_owner, y_params, y_result, y_locals, y_list⟩ := y
  simp only [sm, Code.cells, wtL, T.wt, valWt, tl] at h
  have e2 := laws_eqStringS_ok x_params y_params (by simp only [sml]; omega)
  simp at e2
  have e5 := laws_eqInsS_ok x_list y_list (by simp only [sml]; omega)
  simp at e5
  refine ret_of g_laws_eqCode ?_
  simp [a_laws_eqCode, c_laws_eqCode, e2, e5]
  by_cases h0 : x_name = y_name
  rotate_left
  · simp [h0]
  by_cases h1 : x_owner = y_owner
  rotate_left
  · simp [h0, h1]
  by_cases h2 : x_params = y_params
  rotate_left
  · simp [h0, h1, h2]
  by_cases h3 : x_result = y_result
  rotate_left
  · simp [h0, h1, h2, h3]
  by_cases h4 : x_locals = y_locals
  rotate_left
  · simp [h0, h1, h2, h3, h4]
  by_cases h5 : x_list = y_list
  rotate_left
  · simp [h0, h1, h2, h3, h4, h5]
  simp [h0, h1, h2, h3, h4, h5]
theorem laws_szCode_ok (x : Code) (left : Int) (h : sm x) (hl : 0 ≤ left ∧ left ≤ 1048576) : ret Γ n_laws_szCode [ag x, ai left] = some [.o (.v (.int .i64 (if left < (Code.w x : Nat) then -1 else left - (Code.w x : Nat))))] := by
  obtain ⟨x_name, x_owner, x_params, x_result, x_locals, x_list⟩ := x
  simp only [sm, Code.cells, wtL, T.wt, valWt, tl] at h
  suffices key : ∀ R : Int, (left < ((x_name.size + (x_params.length + wsum ByteArray.size x_params) + x_result.size + x_list.length : Nat) : Int) → R = -1) → (¬ left < ((x_name.size + (x_params.length + wsum ByteArray.size x_params) + x_result.size + x_list.length : Nat) : Int) → R = left - ((x_name.size + (x_params.length + wsum ByteArray.size x_params) + x_result.size + x_list.length : Nat) : Int)) → ret Γ n_laws_szCode [ag (⟨x_name, x_owner, x_params, x_result, x_locals, x_list⟩ : Code), ai left] = some [.o (.v (.int .i64 R))] from key _ (fun h => if_pos h) (fun h => if_neg h)
  intro R hA hB
  refine ret_of g_laws_szCode ?_
  have b0 : IntKind.i64.wrap (left - (x_name.size : Int)) = left - (x_name.size : Int) := wrap_id (by omega) (by omega)
  by_cases h0 : left < ((x_name.size : Nat) : Int)
  · simp [a_laws_szCode, c_laws_szCode, b0, (show left - (x_name.size : Int) < 0 by omega)]
    rw [hA (by omega)]
  have p0 : ¬ left - (x_name.size : Int) < 0 := by omega
  have e1 := laws_szStringS_ok x_params (left - (x_name.size : Int)) (by simp only [sml]; omega) (by omega)
  by_cases h1 : left - (x_name.size : Int) < (((x_params.length + wsum ByteArray.size x_params) : Nat) : Int)
  · rw [if_pos h1] at e1
    simp at e1
    simp [a_laws_szCode, c_laws_szCode, b0, p0, e1]
    rw [hA (by omega)]
  rw [if_neg h1] at e1
  simp at e1
  have p1 : ¬ left - (x_name.size : Int) - ((x_params.length : Int) + ((wsum ByteArray.size x_params : Nat) : Int)) < 0 := by omega
  have b2 : IntKind.i64.wrap (left - (x_name.size : Int) - ((x_params.length : Int) + ((wsum ByteArray.size x_params : Nat) : Int)) - (x_result.size : Int)) = left - (x_name.size : Int) - ((x_params.length : Int) + ((wsum ByteArray.size x_params : Nat) : Int)) - (x_result.size : Int) := wrap_id (by omega) (by omega)
  by_cases h2 : left - (x_name.size : Int) - ((x_params.length : Int) + ((wsum ByteArray.size x_params : Nat) : Int)) < ((x_result.size : Nat) : Int)
  · simp [a_laws_szCode, c_laws_szCode, b0, p0, e1, p1, b2, (show left - (x_name.size : Int) - ((x_params.length : Int) + ((wsum ByteArray.size x_params : Nat) : Int)) - (x_result.size : Int) < 0 by omega)]
    rw [hA (by omega)]
  have p2 : ¬ left - (x_name.size : Int) - ((x_params.length : Int) + ((wsum ByteArray.size x_params : Nat) : Int)) - (x_result.size : Int) < 0 := by omega
  have e3 := laws_szInsS_ok x_list (left - (x_name.size : Int) - ((x_params.length : Int) + ((wsum ByteArray.size x_params : Nat) : Int)) - (x_result.size : Int)) (by simp only [sml]; omega) (by omega)
  by_cases h3 : left - (x_name.size : Int) - ((x_params.length : Int) + ((wsum ByteArray.size x_params : Nat) : Int)) - (x_result.size : Int) < ((x_list.length : Nat) : Int)
  · rw [if_pos h3] at e3
    simp at e3
    simp [a_laws_szCode, c_laws_szCode, b0, p0, e1, p1, b2, p2, e3]
    rw [hA (by omega)]
  rw [if_neg h3] at e3
  simp at e3
  have p3 : ¬ left - (x_name.size : Int) - ((x_params.length : Int) + ((wsum ByteArray.size x_params : Nat) : Int)) - (x_result.size : Int) - (x_list.length : Int) < 0 := by omega
  simp [a_laws_szCode, c_laws_szCode, b0, p0, e1, p1, b2, p2, e3, p3]
  all_goals first
    | (rw [hB (by omega)]; done)
    | (rw [hB (by omega)]; omega)
theorem laws_toCodeS_ok (xs : List Code) (h : sml xs) : ret Γ n_laws_toCodeS [al xs] = some [.o (tl true xs)] := to_gen [.v (.string ByteArray.empty), .v (.int .i64 0), .l true 1 [], .v (.string ByteArray.empty), .v (.int .i64 0), .l true 2 []] rfl g_laws_toCodeS laws_toCode_ok xs h (by decide)
theorem laws_eqCodeS_ok (xs ys : List Code) (h : sml xs) : ret Γ n_laws_eqCodeS [al xs, al ys] = some [.o (.v (.bool (decide (xs = ys))))] := eqS_gen g_laws_eqCodeS laws_eqCode_ok xs ys h
theorem laws_szCodeS_ok (xs : List Code) (left : Int) (h : sml xs) (hl : 0 ≤ left ∧ left ≤ 1048576) : ret Γ n_laws_szCodeS [al xs, ai left] = some [.o (.v (.int .i64 (if left < ((xs.length + wsum Code.w xs : Nat) : Int) then -1 else left - ((xs.length + wsum Code.w xs : Nat) : Int))))] := szS_gen Code.w g_laws_szCodeS laws_szCode_ok xs left h hl
structure Kind where
  name : ByteArray
  super : Int
  pool : List Const
  fields : List Field
  methods : List Code
  deriving DecidableEq
instance : Enc Kind where
  sz := 5
  cells o x := [.v (.string x.name), .v (.int .i64 x.super), tl o x.pool, tl o x.fields, tl o x.methods]
  len _ _ := rfl
  fz o x := by simp
  own x := by simp
  pos := by decide
@[simp] theorem Kind.cells (o : Bool) (x : Kind) : Enc.cells o x = [.v (.string x.name), .v (.int .i64 x.super), tl o x.pool, tl o x.fields, tl o x.methods] := rfl
@[simp] theorem Kind.sz : Enc.sz Kind = 5 := rfl
instance : Dec Kind where
  ty := .struct [.str, .int .i64, .slice (.struct [.int .i64, .int .i64, .str, .str]), .slice (.struct [.str, .str]), .slice (.struct [.str, .int .i64, .slice .str, .str, .int .i64, .slice (.struct [.int .i64, .int .i64])])]
  tysz := rfl
  dec ts h := by
    have h := mem_struct.1 h
    obtain ⟨a0, r0, rfl, m0, h⟩ := memL_cons.1 h
    obtain ⟨a1, r1, rfl, m1, h⟩ := memL_cons.1 h
    obtain ⟨a2, r2, rfl, m2, h⟩ := memL_cons.1 h
    obtain ⟨a3, r3, rfl, m3, h⟩ := memL_cons.1 h
    obtain ⟨a4, r4, rfl, m4, h⟩ := memL_cons.1 h
    obtain rfl := memL_nil.1 h
    obtain ⟨x_name, rfl⟩ := mem_str.1 m0
    obtain ⟨x_super, rfl, _⟩ := mem_int.1 m1
    obtain ⟨x_pool, rfl⟩ := dec_list2 (α := Const) m2
    obtain ⟨x_fields, rfl⟩ := dec_list2 (α := Field) m3
    obtain ⟨x_methods, rfl⟩ := dec_list2 (α := Code) m4
    exact ⟨⟨x_name, x_super, x_pool, x_fields, x_methods⟩, rfl⟩
def Kind.w (x : Kind) : Nat := x.name.size + (x.pool.length + wsum Const.w x.pool) + (x.fields.length + wsum Field.w x.fields) + (x.methods.length + wsum Code.w x.methods)
theorem laws_toKind_ok (x : Kind) (h : sm x) : ret Γ n_laws_toKind [ag x] = some [.a (Enc.cells true x)] := by
  obtain ⟨x_name, x_super, x_pool, x_fields, x_methods⟩ := x
  simp only [sm, Kind.cells, wtL, T.wt, valWt, tl] at h
  have e2 := laws_toConstS_ok x_pool (by simp only [sml]; omega)
  simp at e2
  have e3 := laws_toFieldS_ok x_fields (by simp only [sml]; omega)
  simp at e3
  have e4 := laws_toCodeS_ok x_methods (by simp only [sml]; omega)
  simp at e4
  refine ret_of g_laws_toKind ?_
  simp [a_laws_toKind, c_laws_toKind, e2, e3, e4]
theorem laws_eqKind_ok (x y : Kind) (h : sm x) : ret Γ n_laws_eqKind [ag x, ag y] = some [.o (.v (.bool (decide (x = y))))] := by
  obtain ⟨x_name, x_super, x_pool, x_fields, x_methods⟩ := x
  obtain ⟨y_name, y_super, y_pool, y_fields, y_methods⟩ := y
  simp only [sm, Kind.cells, wtL, T.wt, valWt, tl] at h
  have e2 := laws_eqConstS_ok x_pool y_pool (by simp only [sml]; omega)
  simp at e2
  have e3 := laws_eqFieldS_ok x_fields y_fields (by simp only [sml]; omega)
  simp at e3
  have e4 := laws_eqCodeS_ok x_methods y_methods (by simp only [sml]; omega)
  simp at e4
  refine ret_of g_laws_eqKind ?_
  simp [a_laws_eqKind, c_laws_eqKind, e2, e3, e4]
  by_cases h0 : x_name = y_name
  rotate_left
  · simp [h0]
  by_cases h1 : x_super = y_super
  rotate_left
  · simp [h0, h1]
  by_cases h2 : x_pool = y_pool
  rotate_left
  · simp [h0, h1, h2]
  by_cases h3 : x_fields = y_fields
  rotate_left
  · simp [h0, h1, h2, h3]
  by_cases h4 : x_methods = y_methods
  rotate_left
  · simp [h0, h1, h2, h3, h4]
  simp [h0, h1, h2, h3, h4]
theorem laws_szKind_ok (x : Kind) (left : Int) (h : sm x) (hl : 0 ≤ left ∧ left ≤ 1048576) : ret Γ n_laws_szKind [ag x, ai left] = some [.o (.v (.int .i64 (if left < (Kind.w x : Nat) then -1 else left - (Kind.w x : Nat))))] := by
  obtain ⟨x_name, x_super, x_pool, x_fields, x_methods⟩ := x
  simp only [sm, Kind.cells, wtL, T.wt, valWt, tl] at h
  suffices key : ∀ R : Int, (left < ((x_name.size + (x_pool.length + wsum Const.w x_pool) + (x_fields.length + wsum Field.w x_fields) + (x_methods.length + wsum Code.w x_methods) : Nat) : Int) → R = -1) → (¬ left < ((x_name.size + (x_pool.length + wsum Const.w x_pool) + (x_fields.length + wsum Field.w x_fields) + (x_methods.length + wsum Code.w x_methods) : Nat) : Int) → R = left - ((x_name.size + (x_pool.length + wsum Const.w x_pool) + (x_fields.length + wsum Field.w x_fields) + (x_methods.length + wsum Code.w x_methods) : Nat) : Int)) → ret Γ n_laws_szKind [ag (⟨x_name, x_super, x_pool, x_fields, x_methods⟩ : Kind), ai left] = some [.o (.v (.int .i64 R))] from key _ (fun h => if_pos h) (fun h => if_neg h)
  intro R hA hB
  refine ret_of g_laws_szKind ?_
  have b0 : IntKind.i64.wrap (left - (x_name.size : Int)) = left - (x_name.size : Int) := wrap_id (by omega) (by omega)
  by_cases h0 : left < ((x_name.size : Nat) : Int)
  · simp [a_laws_szKind, c_laws_szKind, b0, (show left - (x_name.size : Int) < 0 by omega)]
    rw [hA (by omega)]
  have p0 : ¬ left - (x_name.size : Int) < 0 := by omega
  have e1 := laws_szConstS_ok x_pool (left - (x_name.size : Int)) (by simp only [sml]; omega) (by omega)
  by_cases h1 : left - (x_name.size : Int) < (((x_pool.length + wsum Const.w x_pool) : Nat) : Int)
  · rw [if_pos h1] at e1
    simp at e1
    simp [a_laws_szKind, c_laws_szKind, b0, p0, e1]
    rw [hA (by omega)]
  rw [if_neg h1] at e1
  simp at e1
  have p1 : ¬ left - (x_name.size : Int) - ((x_pool.length : Int) + ((wsum Const.w x_pool : Nat) : Int)) < 0 := by omega
  have e2 := laws_szFieldS_ok x_fields (left - (x_name.size : Int) - ((x_pool.length : Int) + ((wsum Const.w x_pool : Nat) : Int))) (by simp only [sml]; omega) (by omega)
  by_cases h2 : left - (x_name.size : Int) - ((x_pool.length : Int) + ((wsum Const.w x_pool : Nat) : Int)) < (((x_fields.length + wsum Field.w x_fields) : Nat) : Int)
  · rw [if_pos h2] at e2
    simp at e2
    simp [a_laws_szKind, c_laws_szKind, b0, p0, e1, p1, e2]
    rw [hA (by omega)]
  rw [if_neg h2] at e2
  simp at e2
  have p2 : ¬ left - (x_name.size : Int) - ((x_pool.length : Int) + ((wsum Const.w x_pool : Nat) : Int)) - ((x_fields.length : Int) + ((wsum Field.w x_fields : Nat) : Int)) < 0 := by omega
  have e3 := laws_szCodeS_ok x_methods (left - (x_name.size : Int) - ((x_pool.length : Int) + ((wsum Const.w x_pool : Nat) : Int)) - ((x_fields.length : Int) + ((wsum Field.w x_fields : Nat) : Int))) (by simp only [sml]; omega) (by omega)
  by_cases h3 : left - (x_name.size : Int) - ((x_pool.length : Int) + ((wsum Const.w x_pool : Nat) : Int)) - ((x_fields.length : Int) + ((wsum Field.w x_fields : Nat) : Int)) < (((x_methods.length + wsum Code.w x_methods) : Nat) : Int)
  · rw [if_pos h3] at e3
    simp at e3
    simp [a_laws_szKind, c_laws_szKind, b0, p0, e1, p1, e2, p2, e3]
    rw [hA (by omega)]
  rw [if_neg h3] at e3
  simp at e3
  have p3 : ¬ left - (x_name.size : Int) - ((x_pool.length : Int) + ((wsum Const.w x_pool : Nat) : Int)) - ((x_fields.length : Int) + ((wsum Field.w x_fields : Nat) : Int)) - ((x_methods.length : Int) + ((wsum Code.w x_methods : Nat) : Int)) < 0 := by omega
  simp [a_laws_szKind, c_laws_szKind, b0, p0, e1, p1, e2, p2, e3, p3]
  all_goals first
    | (rw [hB (by omega)]; done)
    | (rw [hB (by omega)]; omega)
theorem laws_toKindS_ok (xs : List Kind) (h : sml xs) : ret Γ n_laws_toKindS [al xs] = some [.o (tl true xs)] := to_gen [.v (.string ByteArray.empty), .v (.int .i64 0), .l true 4 [], .l true 2 [], .l true 6 []] rfl g_laws_toKindS laws_toKind_ok xs h (by decide)
theorem laws_eqKindS_ok (xs ys : List Kind) (h : sml xs) : ret Γ n_laws_eqKindS [al xs, al ys] = some [.o (.v (.bool (decide (xs = ys))))] := eqS_gen g_laws_eqKindS laws_eqKind_ok xs ys h
theorem laws_szKindS_ok (xs : List Kind) (left : Int) (h : sml xs) (hl : 0 ≤ left ∧ left ≤ 1048576) : ret Γ n_laws_szKindS [al xs, ai left] = some [.o (.v (.int .i64 (if left < ((xs.length + wsum Kind.w xs : Nat) : Int) then -1 else left - ((xs.length + wsum Kind.w xs : Nat) : Int))))] := szS_gen Kind.w g_laws_szKindS laws_szKind_ok xs left h hl
structure Prog where
  kinds : List Kind
  deriving DecidableEq
instance : Enc Prog where
  sz := 1
  cells o x := [tl o x.kinds]
  len _ _ := rfl
  fz o x := by simp
  own x := by simp
  pos := by decide
@[simp] theorem Prog.cells (o : Bool) (x : Prog) : Enc.cells o x = [tl o x.kinds] := rfl
@[simp] theorem Prog.sz : Enc.sz Prog = 1 := rfl
instance : Dec Prog where
  ty := .struct [.slice (.struct [.str, .int .i64, .slice (.struct [.int .i64, .int .i64, .str, .str]), .slice (.struct [.str, .str]), .slice (.struct [.str, .int .i64, .slice .str, .str, .int .i64, .slice (.struct [.int .i64, .int .i64])])])]
  tysz := rfl
  dec ts h := by
    have h := mem_struct.1 h
    obtain ⟨a0, r0, rfl, m0, h⟩ := memL_cons.1 h
    obtain rfl := memL_nil.1 h
    obtain ⟨x_kinds, rfl⟩ := dec_list2 (α := Kind) m0
    exact ⟨⟨x_kinds⟩, rfl⟩
def Prog.w (x : Prog) : Nat := (x.kinds.length + wsum Kind.w x.kinds)
theorem laws_toProg_ok (x : Prog) (h : sm x) : ret Γ n_laws_toProg [ag x] = some [.a (Enc.cells true x)] := by
  obtain ⟨x_kinds⟩ := x
  simp only [sm, Prog.cells, wtL, T.wt, valWt, tl] at h
  have e0 := laws_toKindS_ok x_kinds (by simp only [sml]; omega)
  simp at e0
  refine ret_of g_laws_toProg ?_
  simp [a_laws_toProg, c_laws_toProg, e0]
theorem laws_eqProg_ok (x y : Prog) (h : sm x) : ret Γ n_laws_eqProg [ag x, ag y] = some [.o (.v (.bool (decide (x = y))))] := by
  obtain ⟨x_kinds⟩ := x
  obtain ⟨y_kinds⟩ := y
  simp only [sm, Prog.cells, wtL, T.wt, valWt, tl] at h
  have e0 := laws_eqKindS_ok x_kinds y_kinds (by simp only [sml]; omega)
  simp at e0
  refine ret_of g_laws_eqProg ?_
  simp [a_laws_eqProg, c_laws_eqProg, e0]
theorem laws_szProg_ok (x : Prog) (left : Int) (h : sm x) (hl : 0 ≤ left ∧ left ≤ 1048576) : ret Γ n_laws_szProg [ag x, ai left] = some [.o (.v (.int .i64 (if left < (Prog.w x : Nat) then -1 else left - (Prog.w x : Nat))))] := by
  obtain ⟨x_kinds⟩ := x
  simp only [sm, Prog.cells, wtL, T.wt, valWt, tl] at h
  suffices key : ∀ R : Int, (left < (((x_kinds.length + wsum Kind.w x_kinds) : Nat) : Int) → R = -1) → (¬ left < (((x_kinds.length + wsum Kind.w x_kinds) : Nat) : Int) → R = left - (((x_kinds.length + wsum Kind.w x_kinds) : Nat) : Int)) → ret Γ n_laws_szProg [ag (⟨x_kinds⟩ : Prog), ai left] = some [.o (.v (.int .i64 R))] from key _ (fun h => if_pos h) (fun h => if_neg h)
  intro R hA hB
  refine ret_of g_laws_szProg ?_
  have e0 := laws_szKindS_ok x_kinds (left) (by simp only [sml]; omega) (by omega)
  by_cases h0 : left < (((x_kinds.length + wsum Kind.w x_kinds) : Nat) : Int)
  · rw [if_pos h0] at e0
    simp at e0
    simp [a_laws_szProg, c_laws_szProg, e0]
    rw [hA (by omega)]
  rw [if_neg h0] at e0
  simp at e0
  have p0 : ¬ left - ((x_kinds.length : Int) + ((wsum Kind.w x_kinds : Nat) : Int)) < 0 := by omega
  simp [a_laws_szProg, c_laws_szProg, e0, p0]
  all_goals first
    | (rw [hB (by omega)]; done)
    | (rw [hB (by omega)]; omega)
structure Typ where
  kind : Int
  cls : Int
  deriving DecidableEq
instance : Enc Typ where
  sz := 2
  cells o x := [.v (.int .i64 x.kind), .v (.int .i64 x.cls)]
  len _ _ := rfl
  fz o x := by simp
  own x := by simp
  pos := by decide
@[simp] theorem Typ.cells (o : Bool) (x : Typ) : Enc.cells o x = [.v (.int .i64 x.kind), .v (.int .i64 x.cls)] := rfl
@[simp] theorem Typ.sz : Enc.sz Typ = 2 := rfl
instance : Dec Typ where
  ty := .struct [.int .i64, .int .i64]
  tysz := rfl
  dec ts h := by
    have h := mem_struct.1 h
    obtain ⟨a0, r0, rfl, m0, h⟩ := memL_cons.1 h
    obtain ⟨a1, r1, rfl, m1, h⟩ := memL_cons.1 h
    obtain rfl := memL_nil.1 h
    obtain ⟨x_kind, rfl, _⟩ := mem_int.1 m0
    obtain ⟨x_cls, rfl, _⟩ := mem_int.1 m1
    exact ⟨⟨x_kind, x_cls⟩, rfl⟩
structure Flow where
  locals : List Typ
  stack : List Typ
  held : Int
  deriving DecidableEq
instance : Enc Flow where
  sz := 3
  cells o x := [tl o x.locals, tl o x.stack, .v (.int .i64 x.held)]
  len _ _ := rfl
  fz o x := by simp
  own x := by simp
  pos := by decide
@[simp] theorem Flow.cells (o : Bool) (x : Flow) : Enc.cells o x = [tl o x.locals, tl o x.stack, .v (.int .i64 x.held)] := rfl
@[simp] theorem Flow.sz : Enc.sz Flow = 3 := rfl
instance : Dec Flow where
  ty := .struct [.slice (.struct [.int .i64, .int .i64]), .slice (.struct [.int .i64, .int .i64]), .int .i64]
  tysz := rfl
  dec ts h := by
    have h := mem_struct.1 h
    obtain ⟨a0, r0, rfl, m0, h⟩ := memL_cons.1 h
    obtain ⟨a1, r1, rfl, m1, h⟩ := memL_cons.1 h
    obtain ⟨a2, r2, rfl, m2, h⟩ := memL_cons.1 h
    obtain rfl := memL_nil.1 h
    obtain ⟨x_locals, rfl⟩ := dec_list2 (α := Typ) m0
    obtain ⟨x_stack, rfl⟩ := dec_list2 (α := Typ) m1
    obtain ⟨x_held, rfl, _⟩ := mem_int.1 m2
    exact ⟨⟨x_locals, x_stack, x_held⟩, rfl⟩
def Flow.w (x : Flow) : Nat := x.locals.length + x.stack.length

def inR (x lo hi : Int) : Bool := decide (lo ≤ x) && decide (x ≤ hi)
def count (who : Int) : List Stamp → Int
  | [] => 0
  | x :: xs => if x.who = who then x.n else count who xs
/-- A clock, one stamp after another. -/
def stampOk (xs : List Stamp) (i : Nat) (x : Stamp) : Bool := inR x.who 1 1000000 && inR x.n 1 16777215 && (decide (i = 0) || decide ((xs.getD (i - 1) x).who < x.who))
def clockFrom (xs : List Stamp) : List Stamp → Nat → Bool
  | [], _ => true
  | x :: r, i => stampOk xs i x && clockFrom xs r (i + 1)
def clockOk (xs : List Stamp) : Bool := clockFrom xs xs 0
def knowsAll (a : List Stamp) (b : List Stamp) : Bool := b.all fun s => decide (s.n ≤ count s.who a)
def knows (a b : List Stamp) : Bool := clockOk a && clockOk b && knowsAll a b

theorem inR_nat {k : Int} {n : Nat} (h : inR k 0 ((n : Int) - 1) = true) : ∃ j : Nat, k = (j : Int) ∧ j < n := by
  simp [inR] at h
  exact ⟨k.toNat, by omega, by omega⟩
theorem fidx_nil {α : Type} (p : α → Bool) (i : Nat) : fidx p [] i = -1 := rfl
theorem fidx_cons {α : Type} (p : α → Bool) (x : α) (xs : List α) (i : Nat) : fidx p (x :: xs) i = if p x = true then (i : Int) else fidx p xs (i + 1) := rfl
def kindOf (p : List Kind) (s : ByteArray) : Int := fidx (fun k => decide (k.name = s)) p 0
theorem impl_KindOf_ok (p : List Kind) (s : ByteArray) (hl : p.length ≤ 1000000000) : ret Γ n_impl_KindOf [.a [al p], AM.as s] = some [.o (.v (.int .i64 (kindOf p s)))] := by
  refine ret_of g_impl_KindOf ?_
  simp [a_impl_KindOf, c_impl_KindOf]
  refine loop_ind (ι := Nat) (fun i => hd0 [(1, AM.as s), (8, al p), (9, ai p.length), (10, ai i)]) (fun i => p.length - i) (fun i => i ≤ p.length ∧ fidx (fun k => decide (k.name = s)) (p.drop i) i = kindOf p s) ?_ 0 ?_ _ ?_
  · intro i ⟨hi, hc⟩ ih
    by_cases hlt : i < p.length
    · rw [List.drop_eq_getElem_cons hlt, fidx_cons] at hc
      by_cases hw : p[i].name = s
      · simp only [hw, decide_true, if_true] at hc
        simp [hlt, hw, ← hc]
      · simp only [hw, decide_false, Bool.false_eq_true, if_false] at hc
        simp [hlt, hw]
        refine ih (i + 1) (by omega) ⟨by omega, hc⟩ _ ?_
        simp [wrap_nat (i := i) (by omega)]
    · obtain rfl : i = p.length := by omega
      simp [fidx] at hc
      simp [hc]
  · simp [kindOf]
  · simp
theorem spec_KindOf_ok (p : List Kind) (s : ByteArray) (hl : p.length ≤ 1000000000) : ret Γ n_spec_KindOf [.a [al p], AM.as s] = some [.o (.v (.int .i64 (kindOf p s)))] := by
  refine ret_of g_spec_KindOf ?_
  simp [a_spec_KindOf, c_spec_KindOf]
  refine loop_ind (ι := Nat) (fun i => hdb [(1, AM.as s), (2, .b (0, 1000000) 0), (5, ai i)] [[al p]] []) (fun i => p.length - i) (fun i => i ≤ p.length ∧ fidx (fun k => decide (k.name = s)) (p.drop i) i = kindOf p s) ?_ 0 ?_ _ ?_
  · intro i ⟨hi, hc⟩ ih
    by_cases hlt : i < p.length
    · rw [List.drop_eq_getElem_cons hlt, fidx_cons] at hc
      by_cases hw : p[i].name = s
      · simp only [hw, decide_true, if_true] at hc
        simp [hlt, hw, ← hc]
      · simp only [hw, decide_false, Bool.false_eq_true, if_false] at hc
        simp [hlt, hw]
        refine ih (i + 1) (by omega) ⟨by omega, hc⟩ _ ?_
        simp [wrap_nat (i := i) (by omega)]
    · obtain rfl : i = p.length := by omega
      simp [fidx] at hc
      simp [hc]
  · simp [kindOf]
  · simp
theorem laws_FnExactKindOf_ok (p : Prog) (s : ByteArray) (h : sm p) (hs : s.size ≤ 1000000000) : ret Γ n_laws_FnExactKindOf [ag p, AM.as s] = some [.o (.v (.bool true))] := by
  have e1 := laws_szProg_ok p 1048576 h (by omega)
  have e2 := laws_toProg_ok p h
  have e3 := laws_eqProg_ok p p h
  obtain ⟨ks⟩ := p
  have hk : ks.length ≤ 1000000000 := by simp only [sm, Prog.cells, wtL, T.wt, tl] at h; exact sml_len (by unfold sml; omega)
  have e4 := impl_KindOf_ok ks s hk
  have e5 := spec_KindOf_ok ks s hk
  refine ret_of g_laws_FnExactKindOf ?_
  by_cases h0 : (1048576 : Int) < s.size
  · simp [a_laws_FnExactKindOf, c_laws_FnExactKindOf, h0]
  have h0' : (s.size : Int) ≤ 1048576 := by omega
  generalize Prog.w ⟨ks⟩ = W at e1
  simp at e1 e2 e3 e4 e5
  by_cases h1 : (1048576 : Int) < W
  · simp only [h1, if_true] at e1
    simp [a_laws_FnExactKindOf, c_laws_FnExactKindOf, h0, e1]
  simp only [h1, if_false] at e1
  have q1 : ¬ (1048576 : Int) - W < 0 := by omega
  simp [a_laws_FnExactKindOf, c_laws_FnExactKindOf, h0, e1, q1, e2, e3, e4, e5]
theorem laws_FnExactKindOf_law : LawTrue Γ n_laws_FnExactKindOf [.struct [.slice (.struct [.str, .int .i64, .slice (.struct [.int .i64, .int .i64, .str, .str]), .slice (.struct [.str, .str]), .slice (.struct [.str, .int .i64, .slice .str, .str, .int .i64, .slice (.struct [.int .i64, .int .i64])])])], .str] 1048576 := by
  intro args h hw
  obtain ⟨_, _, rfl, h0, h⟩ := args_cons h
  obtain ⟨_, _, rfl, h1, h⟩ := args_cons h
  obtain rfl := args_nil h
  obtain ⟨p, rfl, l0⟩ := arg_struct (α := Prog) rfl h0
  obtain ⟨s, rfl, l1⟩ := arg_str h1
  simp only [svsWt] at hw
  exact law_of_ret (laws_FnExactKindOf_ok p s (by unfold sm; omega) (by omega))

@[simp] theorem veqL_nl : veqL [] [] [] = some true := rfl
@[simp] theorem veqL_int (k : IntKind) (a b : Int) (ks : List Nat) (xs ys : List SV) : veqL (1 :: ks) (.c (.v (.int k a)) :: xs) (.c (.v (.int k b)) :: ys) = (veqL ks xs ys).map (fun q => decide (a = b) && q) := by
  simp only [veqL, veq, if_true]
  cases veqL ks xs ys <;> by_cases h : a = b <;> simp [h]
@[simp] theorem veqL_bool (a b : Bool) (ks : List Nat) (xs ys : List SV) : veqL (0 :: ks) (.c (.v (.bool a)) :: xs) (.c (.v (.bool b)) :: ys) = (veqL ks xs ys).map (fun q => (a == b) && q) := by
  simp only [veqL, veq]
  cases veqL ks xs ys <;> simp
theorem bytes_beq (a b : ByteArray) : (a == b) = decide (a = b) := by
  obtain ⟨x⟩ := a
  obtain ⟨y⟩ := b
  have h : (ByteArray.mk x == ByteArray.mk y) = (x == y) := rfl
  rw [h]
  by_cases h : x = y <;> simp [h]
@[simp] theorem veqL_str (a b : ByteArray) (ks : List Nat) (xs ys : List SV) : veqL (2 :: ks) (.c (.v (.string a)) :: xs) (.c (.v (.string b)) :: ys) = (veqL ks xs ys).map (fun q => decide (a = b) && q) := by
  simp only [veqL, veq, bytes_beq]
  cases veqL ks xs ys <;> by_cases h : a = b <;> simp [h]
def typeOk (n : Nat) (k c : Int) : Bool := if k = 3 then inR c 0 ((n : Int) - 1) else inR k 0 2 && decide (c = 0)
/-- a is b, or has it above, in so many steps. -/
def subN (p : List Kind) (b : Int) : Nat → Int → Bool
  | 0, _ => false
  | n + 1, a => if inR a 0 ((p.length : Int) - 1) = true then (if a = b then true else match p[a.toNat]? with | some k => subN p b n k.super | none => false) else false
def sub (p : List Kind) (a b : Int) : Bool := inR b 0 ((p.length : Int) - 1) && subN p b 7 a
def typeOf (p : List Kind) (s : ByteArray) : Typ := if s = ⟨#[73]⟩ then ⟨1, 0⟩ else if kindOf p s < 0 then ⟨0, 0⟩ else ⟨3, kindOf p s⟩
def fits (p : List Kind) (ak ac bk bc : Int) : Bool := typeOk p.length ak ac && typeOk p.length bk bc && (decide (bk = 0) || (decide (ak = bk) && decide (ac = bc)) || (decide (bk = 3) && (decide (ak = 2) || (decide (ak = 3) && sub p ac bc))))

@[simp] theorem idxOf_id (a b : Id) (l : List Id) : List.idxOf a (b :: l) = if b = a then 0 else List.idxOf a l + 1 := by
  rw [List.idxOf_cons]
  by_cases h : b = a
  · subst h; simp
  · have e : (b == a) = false := by simpa using h
    simp [h, e]
theorem sm_Typ (x : Typ) : sm x := by
  simp only [sm, Typ.cells, wtL, T.wt, valWt]; omega
theorem sm_Kind {k : Kind} (h : sm k) : sml k.pool ∧ sml k.fields ∧ sml k.methods := by
  simp only [sm, Kind.cells, wtL, T.wt, valWt, tl] at h
  exact ⟨by simp only [sml]; omega, by simp only [sml]; omega, by simp only [sml]; omega⟩
theorem sm_Prog {p : Prog} (h : sm p) : sml p.kinds := by
  simp only [sm, Prog.cells, wtL, T.wt, valWt, tl] at h
  simp only [sml]; omega
theorem sm_Flow {p : Flow} (h : sm p) : sml p.locals ∧ sml p.stack := by
  simp only [sm, Flow.cells, wtL, T.wt, valWt, tl] at h
  exact ⟨by simp only [sml]; omega, by simp only [sml]; omega⟩
def fieldIx (p : List Kind) (k : Int) (s : ByteArray) : Int := if inR k 0 ((p.length : Int) - 1) = true then (match p[k.toNat]? with | some q => fidx (fun f => decide (f.name = s)) q.fields 0 | none => -1) else -1
def methodIx (p : List Kind) (k : Int) (s : ByteArray) : Int := if inR k 0 ((p.length : Int) - 1) = true then (match p[k.toNat]? with | some q => fidx (fun f => decide (f.name = s)) q.methods 0 | none => -1) else -1
def flowOk (p : List Kind) (f : Flow) : Bool := f.locals.all (fun t => typeOk p.length t.kind t.cls) && f.stack.all (fun t => typeOk p.length t.kind t.cls) && (decide (f.locals.length ≤ 6) && decide (f.stack.length ≤ 6) && inR f.held 0 4)
theorem all_drop {α : Type} (f : α → Bool) {xs : List α} {i : Nat} (h : i < xs.length) : (xs.drop i).all f = (f xs[i] && (xs.drop (i + 1)).all f) := by rw [List.drop_eq_getElem_cons h]; rfl

def joinN (p : List Kind) (b : Int) : Nat → Int → Typ
  | 0, _ => ⟨0, 0⟩
  | n + 1, k => if inR k 0 ((p.length : Int) - 1) = true then (if sub p b k = true then ⟨3, k⟩ else match p[k.toNat]? with | some q => joinN p b n q.super | none => ⟨0, 0⟩) else ⟨0, 0⟩
def join (p : List Kind) (a b : Typ) : Typ := if fits p a.kind a.cls b.kind b.cls = true then b else if fits p b.kind b.cls a.kind a.cls = true then a else if (typeOk p.length a.kind a.cls && typeOk p.length b.kind b.cls && decide (a.kind = 3) && decide (b.kind = 3)) = true then (match p[a.cls.toNat]? with | some q => joinN p b.cls 6 q.super | none => ⟨0, 0⟩) else ⟨0, 0⟩
theorem fits_sub {p : List Kind} {a b : Int} (h1 : typeOk p.length 3 a = true) (h2 : typeOk p.length 3 b = true) (h : fits p 3 b 3 a = false) : sub p b a = false := by
  simp [fits, h1, h2] at h
  exact h.2



def allN (f : Nat → Bool) : Nat → Nat → Bool
  | 0, _ => true
  | n + 1, i => f i && allN f n (i + 1)
theorem allN_0 (f : Nat → Bool) (i : Nat) : allN f 0 i = true := rfl
theorem allN_step (f : Nat → Bool) {i n : Nat} (h : i < n) : allN f (n - i) i = (f i && allN f (n - (i + 1)) (i + 1)) := by
  have e : n - i = (n - (i + 1)) + 1 := by omega
  rw [e]; rfl
def lk {α : Type} (xs : List α) (i : Nat) (f : α → Bool) : Bool := match xs[i]? with | some x => f x | none => false
theorem lk_get {α : Type} {xs : List α} {i : Nat} (f : α → Bool) (h : i < xs.length) : lk xs i f = f xs[i] := by simp [lk, h]
def valOk (v : Val) : Bool := if v.ref = true then inR v.n 0 1000000 else inR v.n (-2147483648) 2147483647
def valsOk (xs : List Val) : Bool := allN (fun i => lk xs i valOk) xs.length 0
def hasMethod (p : List Kind) (k m : Int) : Bool := inR k 0 ((p.length : Int) - 1) && (match p[k.toNat]? with | some q => inR m 0 ((q.methods.length : Int) - 1) | none => false)
theorem hasMethod_get {p : List Kind} {k m : Int} (h : hasMethod p k m = true) : ∃ j i : Nat, ∃ hj : j < p.length, k = (j : Int) ∧ m = (i : Int) ∧ i < p[j].methods.length := by
  unfold hasMethod at h
  rw [Bool.and_eq_true] at h
  obtain ⟨h1, h2⟩ := h
  obtain ⟨j, rfl, hj⟩ := inR_nat h1
  simp only [Int.toNat_natCast, List.getElem?_eq_getElem hj] at h2
  obtain ⟨i, rfl, hi⟩ := inR_nat h2
  exact ⟨j, i, hj, rfl, rfl, hi⟩
theorem sm_Code {c : Code} (h : sm c) : sml c.list ∧ sml c.params := by
  simp only [sm, Code.cells, wtL, T.wt, valWt, tl] at h
  exact ⟨by simp only [sml]; omega, by simp only [sml]; omega⟩
theorem sm_Frame {c : Frame} (h : sm c) : sml c.locals ∧ sml c.stack := by
  simp only [sm, Frame.cells, wtL, T.wt, valWt, tl] at h
  exact ⟨by simp only [sml]; omega, by simp only [sml]; omega⟩
theorem sm_Thread {c : Thread} (h : sm c) : sml c.frames := by
  simp only [sm, Thread.cells, wtL, T.wt, valWt, tl] at h
  simp only [sml]; omega
theorem sm_Object {c : Object} (h : sm c) : sml c.fields := by
  simp only [sm, Object.cells, wtL, T.wt, valWt, tl] at h
  simp only [sml]; omega
theorem sm_Memory {c : Memory} (h : sm c) : sml c.objects ∧ sml c.locks := by
  simp only [sm, Memory.cells, wtL, T.wt, valWt, tl] at h
  exact ⟨by simp only [sml]; omega, by simp only [sml]; omega⟩
def methodAt (p : List Kind) (k m : Int) : Option Code := match p[k.toNat]? with | some q => q.methods[m.toNat]? | none => none
def frameOk (p : List Kind) (f : Frame) : Bool := hasMethod p f.kind f.method && (match methodAt p f.kind f.method with | some c => decide (c.owner = f.kind) && inR f.pc 0 ((c.list.length : Int) - 1) && decide ((f.locals.length : Int) = c.locals) && decide ((f.stack.length : Int) ≤ 6) && valsOk f.locals && valsOk f.stack | none => false)
def threadOk (p : List Kind) (t : Thread) : Bool := allN (fun i => lk t.frames i (frameOk p)) t.frames.length 0 && (inR t.id 1 1000000 && decide ((t.frames.length : Int) ≤ 8) && (decide (0 < t.frames.length) || !decide (t.state = 0)) && inR t.state 0 5 && inR t.made 0 15)

def objAt (os : List Object) (id : Int) : Int := fidx (fun o => decide (o.id = id)) os 0
def readAt (os : List Object) (id k : Int) : Val × Bool := if objAt os id < 0 then (⟨false, 0⟩, false) else match os[(objAt os id).toNat]? with | some o => (if inR k 0 ((o.fields.length : Int) - 1) = true then (match o.fields[k.toNat]? with | some v => (v, true) | none => (⟨false, 0⟩, false)) else (⟨false, 0⟩, false)) | none => (⟨false, 0⟩, false)
theorem objAt_range (os : List Object) (id : Int) : objAt os id = -1 ∨ ∃ j : Nat, j < os.length ∧ objAt os id = (j : Int) := by
  rcases fidx_range (fun o : Object => decide (o.id = id)) os 0 with h | ⟨j, h, e, _⟩
  · exact .inl h
  · exact .inr ⟨j, h, by unfold objAt; rw [e]; simp⟩
def typedAt (vs : List Val) (fs : List Field) (i : Nat) : Bool := match vs[i]?, fs[i]? with | some v, some f => v.ref == !decide (f.type = ⟨#[73]⟩) | _, _ => false
theorem typedAt_get {vs : List Val} {fs : List Field} {i : Nat} (h : i < vs.length) (h2 : i < fs.length) : typedAt vs fs i = (vs[i].ref == !decide (fs[i].type = ⟨#[73]⟩)) := by simp [typedAt, h, h2]
def valuesOk (p : List Kind) (k : Int) (vs : List Val) : Bool := inR k 0 ((p.length : Int) - 1) && (match p[k.toNat]? with | some q => decide (vs.length = q.fields.length) && (valsOk vs && allN (typedAt vs q.fields) vs.length 0) | none => false)
theorem allN_and (f g : Nat → Bool) : ∀ n i, allN (fun i => f i && g i) n i = (allN f n i && allN g n i)
  | 0, _ => rfl
  | n + 1, i => by
    simp only [allN, allN_and f g n (i + 1)]
    cases f i <;> cases g i <;> simp
def objOk (p : List Kind) (o : Object) : Bool := inR o.id 1 1000000 && valuesOk p o.cls o.fields

def upAt {α : Type} (g : α → Int) (xs : List α) (i : Nat) : Bool := if 0 < i then (match xs[i - 1]?, xs[i]? with | some a, some b => decide (g a < g b) | _, _ => false) else true
theorem upAt_pos {α : Type} (g : α → Int) {xs : List α} {i : Nat} (h : 0 < i) (h1 : i - 1 < xs.length) (h2 : i < xs.length) : upAt g xs i = decide (g xs[i - 1] < g xs[i]) := by simp [upAt, h, h1, h2]
theorem upAt_zero {α : Type} (g : α → Int) (xs : List α) {i : Nat} (h : ¬ 0 < i) : upAt g xs i = true := by simp [upAt, h]
theorem sm_Val (x : Val) : sm x := by
  simp only [sm, Val.cells, wtL, T.wt, valWt]; omega
def lockOk (os : List Object) (l : Lock) : Bool := !decide (objAt os l.id < 0) && inR l.who 1 1000000 && inR l.count 1 1000
def memOk (p : List Kind) (os : List Object) (ls : List Lock) : Bool := allN (fun i => lk os i (objOk p) && upAt (fun o => o.id) os i) os.length 0 && allN (fun i => lk ls i (lockOk os) && upAt (fun o => o.id) ls i) ls.length 0


end AM
