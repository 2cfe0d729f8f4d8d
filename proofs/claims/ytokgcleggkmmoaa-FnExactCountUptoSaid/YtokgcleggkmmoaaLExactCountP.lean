/- What each function of FnExactCount comes to. -/
import Derived.Test.YtokgcleggkmmoaaLExactCountC
namespace AM
open Go
set_option maxRecDepth 100000
structure Stamp where
  who : Int
  n : Int
  deriving DecidableEq
instance : Enc Stamp where
  sz := 2
  cells _ x := [.v (.int .i64 x.who), .v (.int .i64 x.n)]
  len _ _ := rfl
  fz _ _ := rfl
  own _ := rfl
@[simp] theorem Stamp.cells (o : Bool) (x : Stamp) : Enc.cells o x = [.v (.int .i64 x.who), .v (.int .i64 x.n)] := rfl
@[simp] theorem Stamp.sz : Enc.sz Stamp = 2 := rfl
instance : Dec Stamp where
  ty := .struct [.int .i64, .int .i64]
  tysz := rfl
  pos := by decide
  dec ts h := by
    simp only [Ty.mem, memL] at h
    obtain ⟨_, _, rfl, ⟨a, rfl, _⟩, _, _, rfl, ⟨b, rfl, _⟩, rfl⟩ := h
    exact ⟨⟨a, b⟩, rfl⟩
theorem laws_toStamp_ok (x : Stamp) : ret Γ n_laws_toStamp [ag x] = some [.a (Enc.cells true x)] := by
  refine ret_of g_laws_toStamp ?_
  simp [a_laws_toStamp, c_laws_toStamp]
theorem laws_eqStamp_ok (x y : Stamp) : ret Γ n_laws_eqStamp [ag x, ag y] = some [.o (.v (.bool (decide (x = y))))] := by
  refine ret_of g_laws_eqStamp ?_
  obtain ⟨a, b⟩ := x
  obtain ⟨c, d⟩ := y
  simp [a_laws_eqStamp, c_laws_eqStamp]
  by_cases h1 : a = c <;> by_cases h2 : b = d <;> simp [h1, h2]
theorem laws_szStampS_ok (xs : List Stamp) (left : Int) (hl : xs.length ≤ 1000000000) (h : 0 ≤ left ∧ left ≤ 1048576) : ret Γ n_laws_szStampS [al xs, ai left] = some [.o (.v (.int .i64 (if left < xs.length then -1 else left - xs.length)))] := sz0_gen g_laws_szStampS xs left hl h
theorem laws_toStampS_ok (xs : List Stamp) (hl : xs.length ≤ 1000000000) : ret Γ n_laws_toStampS [al xs] = some [.o (tl true xs)] := tos_gen [.v (.int .i64 0), .v (.int .i64 0)] rfl g_laws_toStampS (fun _ => rfl) laws_toStamp_ok xs hl (by simp [LIM]; omega)
theorem laws_eqStampS_ok (xs ys : List Stamp) (hl : xs.length ≤ 1000000000) : ret Γ n_laws_eqStampS [al xs, al ys] = some [.o (.v (.bool (decide (xs = ys))))] := eqS_gen g_laws_eqStampS laws_eqStamp_ok xs ys hl
def count (who : Int) : List Stamp → Int
  | [] => 0
  | x :: xs => if x.who = who then x.n else count who xs
theorem spec_Count_ok (xs : List Stamp) (who : Int) (hl : xs.length ≤ 1000000000) : ret Γ n_spec_Count [al xs, ai who] = some [.o (.v (.int .i64 (count who xs)))] := by
  refine ret_of g_spec_Count ?_
  simp [a_spec_Count, c_spec_Count]
  refine loop_ind (ι := Nat) (fun i => ⟨upd (upd (upd (fun _ => .u) 5 (ai i)) 1 (ai who)) 0 (al xs), cbx [] (fun _ => none), ch [] (fun _ => none)⟩) (fun i => xs.length - i) (fun i => i ≤ xs.length ∧ count who (xs.drop i) = count who xs) ?_ 0 ?_ _ ?_
  · intro i ⟨hi, hc⟩ ih
    by_cases hlt : i < xs.length
    · rw [List.drop_eq_getElem_cons hlt] at hc
      simp [hlt]
      split
      · rename_i hw; simp [hw, count] at hc ⊢; exact hc
      · rename_i hw
        refine ih (i + 1) (by omega) ⟨by omega, by simpa [count, hw] using hc⟩ _ ?_
        simp [wrap_nat (i := i) (by omega)]
    · obtain rfl : i = xs.length := by omega
      simp [count] at hc
      simp [hc]
  · simp
  · simp
theorem impl_Count_ok (xs : List Stamp) (who : Int) (hl : xs.length ≤ 1000000000) : ret Γ n_impl_Count [al xs, ai who] = some [.o (.v (.int .i64 (count who xs)))] := by
  refine ret_of g_impl_Count ?_
  simp [a_impl_Count, c_impl_Count]
  refine loop_ind (ι := Nat) (fun i => ⟨upd (upd (upd (upd (fun _ => .u) 9 (ai i)) 8 (ai xs.length)) 7 (al xs)) 1 (ai who), cbx [] (fun _ => none), ch [] (fun _ => none)⟩) (fun i => xs.length - i) (fun i => i ≤ xs.length ∧ count who (xs.drop i) = count who xs) ?_ 0 ?_ _ ?_
  · intro i ⟨hi, hc⟩ ih
    by_cases hlt : i < xs.length
    · rw [List.drop_eq_getElem_cons hlt] at hc
      simp [hlt]
      split
      · rename_i hw; simp [hw, count] at hc ⊢; exact hc
      · rename_i hw
        refine ih (i + 1) (by omega) ⟨by omega, by simpa [count, hw] using hc⟩ _ ?_
        simp [wrap_nat (i := i) (by omega)]
    · obtain rfl : i = xs.length := by omega
      simp [count] at hc
      simp [hc]
  · simp
  · simp
theorem laws_FnExactCount_ok (xs : List Stamp) (who : Int) (hl : xs.length ≤ 1048576) : ret Γ n_laws_FnExactCount [al xs, ai who] = some [.o (.v (.bool true))] := by
  refine ret_of g_laws_FnExactCount ?_
  have h1 := laws_szStampS_ok xs 1048576 (by omega) (by omega)
  have h2 := laws_toStampS_ok xs (by omega)
  have h3 := spec_Count_ok xs who (by omega)
  have h4 := impl_Count_ok xs who (by omega)
  have h5 := laws_eqStampS_ok xs xs (by omega)
  simp at h1 h2 h3 h4 h5
  rw [if_neg (by omega)] at h1
  simp [a_laws_FnExactCount, c_laws_FnExactCount, h1, h2, h3, h4, h5]
theorem laws_FnExactCount_law : LawTrue Γ n_laws_FnExactCount [.slice (.struct [.int .i64, .int .i64]), .int .i64] 1048576 := by
  intro args h hw
  obtain ⟨_, _, rfl, h0, h⟩ := args_cons h
  obtain ⟨_, _, rfl, h1, h⟩ := args_cons h
  obtain rfl := args_nil h
  obtain ⟨xs, rfl, l0⟩ := arg_list (α := Stamp) h0
  obtain ⟨n, rfl, _⟩ := arg_int h1
  simp only [svsWt] at hw
  exact law_of_ret (laws_FnExactCount_ok xs n (by omega))


end AM
