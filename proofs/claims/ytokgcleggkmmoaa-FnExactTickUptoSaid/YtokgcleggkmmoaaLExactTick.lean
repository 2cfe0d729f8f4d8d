/- FnExactTick answers true, whatever the input of bulk at most 1048576: the code is what the translation says, the machine AM runs it, and the law holds of what it runs. -/
import Derived.Test.YtokgcleggkmmoaaRows
import Derived.Test.YtokgcleggkmmoaaLExactTickP
import Derived.WalkKit
import Derived.ProofKit
import Derived.OpenShut
import Derived.JoinedCond
import Derived.ReadAgain
namespace Go.Proofs.Ytokgcleggkmmoaa.LExactTick
open Go.ChangeShapes Go.WideShapes Go.ChangeAt Go.RowKit
set_option linter.unusedVariables false
set_option maxRecDepth 100000
theorem k_laws_szStampS : ∃ fn H L, Try.prog.funcs[AM.n_laws_szStampS]? = some fn ∧ AM.compF Try.prog H L fn = some AM.a_laws_szStampS := ⟨Try.f14, { lend := [], mvs := [], lst := [], pure := [] }, [], Try.func14, by kernel_rfl⟩
theorem k_laws_toStamp : ∃ fn H L, Try.prog.funcs[AM.n_laws_toStamp]? = some fn ∧ AM.compF Try.prog H L fn = some AM.a_laws_toStamp := ⟨Try.f59, { lend := [], mvs := [], lst := [], pure := [] }, [], Try.func59, by kernel_rfl⟩
theorem k_laws_toStampS : ∃ fn H L, Try.prog.funcs[AM.n_laws_toStampS]? = some fn ∧ AM.compF Try.prog H L fn = some AM.a_laws_toStampS := ⟨Try.f16, { lend := [], mvs := [], lst := [], pure := [] }, [[0, 3, 4]], Try.func16, by kernel_rfl⟩
theorem k_spec_Count : ∃ fn H L, Try.prog.funcs[AM.n_spec_Count]? = some fn ∧ AM.compF Try.prog H L fn = some AM.a_spec_Count := ⟨Try.f15, { lend := [], mvs := [], lst := [], pure := [] }, [[0, 1, 5]], Try.func15, by kernel_rfl⟩
theorem k_spec_l1In : ∃ fn H L, Try.prog.funcs[AM.n_spec_l1In]? = some fn ∧ AM.compF Try.prog H L fn = some AM.a_spec_l1In := ⟨Try.f61, { lend := [], mvs := [], lst := [], pure := [] }, [], Try.func61, by kernel_rfl⟩
theorem k_spec_ClockOk : ∃ fn H L, Try.prog.funcs[AM.n_spec_ClockOk]? = some fn ∧ AM.compF Try.prog H L fn = some AM.a_spec_ClockOk := ⟨Try.f19, { lend := [], mvs := [], lst := [], pure := [] }, [[0, 3]], Try.func19, by kernel_rfl⟩
theorem k_spec_l1Max : ∃ fn H L, Try.prog.funcs[AM.n_spec_l1Max]? = some fn ∧ AM.compF Try.prog H L fn = some AM.a_spec_l1Max := ⟨Try.f100, { lend := [], mvs := [], lst := [], pure := [] }, [], Try.func100, by kernel_rfl⟩
theorem k_spec_l17Join : ∃ fn H L, Try.prog.funcs[AM.n_spec_l17Join]? = some fn ∧ AM.compF Try.prog H L fn = some AM.a_spec_l17Join := ⟨Try.f64, { lend := [], mvs := [], lst := [], pure := [] }, [[0, 1, 5, 6, 7]], Try.func64, by kernel_rfl⟩
theorem k_spec_Tick : ∃ fn H L, Try.prog.funcs[AM.n_spec_Tick]? = some fn ∧ AM.compF Try.prog H L fn = some AM.a_spec_Tick := ⟨Try.f27, { lend := [], mvs := [], lst := [], pure := [] }, [], Try.func27, by kernel_rfl⟩
theorem k_impl_Count : ∃ fn H L, Try.prog.funcs[AM.n_impl_Count]? = some fn ∧ AM.compF Try.prog H L fn = some AM.a_impl_Count := ⟨Try.f17, { lend := [], mvs := [], lst := [], pure := [] }, [[1, 7, 8, 9]], Try.func17, by kernel_rfl⟩
theorem k_impl_within : ∃ fn H L, Try.prog.funcs[AM.n_impl_within]? = some fn ∧ AM.compF Try.prog H L fn = some AM.a_impl_within := ⟨Try.f63, { lend := [], mvs := [], lst := [], pure := [] }, [], Try.func63, by kernel_rfl⟩
theorem k_impl_isId : ∃ fn H L, Try.prog.funcs[AM.n_impl_isId]? = some fn ∧ AM.compF Try.prog H L fn = some AM.a_impl_isId := ⟨Try.f62, { lend := [], mvs := [], lst := [], pure := [] }, [], Try.func62, by kernel_rfl⟩
theorem k_impl_ClockOk : ∃ fn H L, Try.prog.funcs[AM.n_impl_ClockOk]? = some fn ∧ AM.compF Try.prog H L fn = some AM.a_impl_ClockOk := ⟨Try.f20, { lend := [], mvs := [], lst := [], pure := [] }, [[0, 5, 6, 7]], Try.func20, by kernel_rfl⟩
theorem k_impl_copyStamps : ∃ fn H L, Try.prog.funcs[AM.n_impl_copyStamps]? = some fn ∧ AM.compF Try.prog H L fn = some AM.a_impl_copyStamps := ⟨Try.f66, { lend := [], mvs := [], lst := [], pure := [] }, [], Try.func66, by kernel_rfl⟩
theorem k_impl_joined : ∃ fn H L, Try.prog.funcs[AM.n_impl_joined]? = some fn ∧ AM.compF Try.prog H L fn = some AM.a_impl_joined := ⟨Try.f65, { lend := [], mvs := [], lst := [], pure := [] }, [[0, 1, 5, 6, 7]], Try.func65, by kernel_rfl⟩
theorem k_impl_Tick : ∃ fn H L, Try.prog.funcs[AM.n_impl_Tick]? = some fn ∧ AM.compF Try.prog H L fn = some AM.a_impl_Tick := ⟨Try.f28, { lend := [], mvs := [], lst := [], pure := [] }, [], Try.func28, by kernel_rfl⟩
theorem k_laws_eqStamp : ∃ fn H L, Try.prog.funcs[AM.n_laws_eqStamp]? = some fn ∧ AM.compF Try.prog H L fn = some AM.a_laws_eqStamp := ⟨Try.f60, { lend := [], mvs := [], lst := [], pure := [] }, [], Try.func60, by kernel_rfl⟩
theorem k_laws_eqStampS : ∃ fn H L, Try.prog.funcs[AM.n_laws_eqStampS]? = some fn ∧ AM.compF Try.prog H L fn = some AM.a_laws_eqStampS := ⟨Try.f18, { lend := [], mvs := [], lst := [], pure := [] }, [[0, 1, 5]], Try.func18, by kernel_rfl⟩
theorem k_laws_markStampS : ∃ fn H L, Try.prog.funcs[AM.n_laws_markStampS]? = some fn ∧ AM.compF Try.prog H L fn = some AM.a_laws_markStampS := ⟨Try.f25, { lend := [], mvs := [], lst := [], pure := [] }, [[0, 1, 5]], Try.func25, by kernel_rfl⟩
theorem k_laws_heldStampS : ∃ fn H L, Try.prog.funcs[AM.n_laws_heldStampS]? = some fn ∧ AM.compF Try.prog H L fn = some AM.a_laws_heldStampS := ⟨Try.f26, { lend := [], mvs := [], lst := [], pure := [] }, [[0, 1, 5]], Try.func26, by kernel_rfl⟩
theorem k_laws_FnExactTick : ∃ fn H L, Try.prog.funcs[AM.n_laws_FnExactTick]? = some fn ∧ AM.compF Try.prog H L fn = some AM.a_laws_FnExactTick := ⟨Try.f7, { lend := [25], mvs := [], lst := [], pure := [] }, [], Try.func7, by kernel_rfl⟩
theorem all_codes : ∀ x ∈ AM.codes, ∃ fn H L, Try.prog.funcs[x.1]? = some fn ∧ AM.compF Try.prog H L fn = some x.2 := by
  unfold AM.codes
  exact List.forall_mem_cons.2 ⟨k_laws_szStampS, List.forall_mem_cons.2 ⟨k_laws_toStamp, List.forall_mem_cons.2 ⟨k_laws_toStampS, List.forall_mem_cons.2 ⟨k_spec_Count, List.forall_mem_cons.2 ⟨k_spec_l1In, List.forall_mem_cons.2 ⟨k_spec_ClockOk, List.forall_mem_cons.2 ⟨k_spec_l1Max, List.forall_mem_cons.2 ⟨k_spec_l17Join, List.forall_mem_cons.2 ⟨k_spec_Tick, List.forall_mem_cons.2 ⟨k_impl_Count, List.forall_mem_cons.2 ⟨k_impl_within, List.forall_mem_cons.2 ⟨k_impl_isId, List.forall_mem_cons.2 ⟨k_impl_ClockOk, List.forall_mem_cons.2 ⟨k_impl_copyStamps, List.forall_mem_cons.2 ⟨k_impl_joined, List.forall_mem_cons.2 ⟨k_impl_Tick, List.forall_mem_cons.2 ⟨k_laws_eqStamp, List.forall_mem_cons.2 ⟨k_laws_eqStampS, List.forall_mem_cons.2 ⟨k_laws_markStampS, List.forall_mem_cons.2 ⟨k_laws_heldStampS, List.forall_mem_cons.2 ⟨k_laws_FnExactTick, (by simp)⟩⟩⟩⟩⟩⟩⟩⟩⟩⟩⟩⟩⟩⟩⟩⟩⟩⟩⟩⟩⟩
theorem comps : AM.Comps Try.prog AM.Γ := AM.comps_of all_codes
theorem own : ownKnob Try.prog.godebug = none := by kernel_rfl
theorem mixed : Try.prog.follows .mixedOrders = true := by kernel_rfl
theorem kids : Kids Try.prog (· < Try.prog.types.size) := kids_rows (by kernel_rfl) (by kernel_rfl)
theorem full : ∀ t e, t < Try.prog.types.size → Try.prog.underlying t = some (.slice e) → 0 < Try.prog.cellsOf e := slices_full_of Try.prog (by kernel_rfl)
theorem one_le {H : Type} (d : DataW H) : 1 ≤ Rows.uptoBulk d := by
  cases d with
  | lit l => cases l <;> simp [Rows.uptoBulk]
  | nil => simp [Rows.uptoBulk]
  | ptr d => simp [Rows.uptoBulk]
  | slice elems spare => simp [Rows.uptoBulk]
  | agg parts => simp [Rows.uptoBulk]
  | iface t d => simp [Rows.uptoBulk]
  | map entries => simp [Rows.uptoBulk]
  | held h => simp [Rows.uptoBulk]
theorem bulk (H : Type) : AM.Bulk (H := H) Rows.uptoBulk Rows.uptoBulkAll := ⟨fun _ => by simp [Rows.uptoBulk], fun _ _ => by simp [Rows.uptoBulk], fun _ => by simp [Rows.uptoBulk], one_le, by simp [Rows.uptoBulkAll], fun _ _ => by simp [Rows.uptoBulkAll]⟩
theorem tys : Try.f7.params.toList.map (AM.tyOf Try.prog 20) = [(.slice (.struct [(.int .i64), (.int .i64)])), (.int .i64)].map some := by kernel_rfl
theorem lifted (os : Os) (started : os.Started) (H : Type) (enc : TypeId × Value → H) (F : Stop.Interp) :
    ReturnsInHanded {} Try.checked os 7 .any ((Rows.OpenSpec.upto Rows.fnExactTickSpec).pre6 enc Try.prog Try.f7 Rows.fnExactTickUptoRow.domain false) (((Rows.OpenSpec.upto Rows.fnExactTickSpec).at F).post enc Try.prog Try.f7 false true false false) := by
  refine returnsInHanded_of_cond (C := Try.checked) (s := Rows.OpenSpec.upto Rows.fnExactTickSpec) (k := Rows.uptoSmall) rfl own started (by kernel_rfl) Try.func7
    (OpenSpec.witness (enc := enc) (C := Try.checked) (s := Rows.OpenSpec.upto Rows.fnExactTickSpec) (k := Rows.uptoSmall) rfl false ⟨#[], #[.slice none 0 0, .int .i64 0], []⟩ 30 (by kernel_rfl) (by kernel_rfl) (by kernel_rfl)
      (x := ([.nil, .lit (.int .i64 0)], [], [])) (by kernel_rfl) rfl (by kernel_rfl)) ?_
  intro W base args ds gs before hval hW _ hk _
  have hfn : ∀ ds : List (DataW H), ds.length = 2 → Rows.fnExactTickSpec.fn H ds = { results := [.lit (.bool true)], args := ds } := by
    intro ds hd
    match ds, hd with
    | [d0, d1], _ => rfl
  exact AM.law_contract comps mixed AM.laws_FnExactTick_law (bulk H) tys rfl hfn (tb := 4) (by kernel_rfl) (by kernel_rfl) kids full (of_decide_eq_true (by kernel_rfl)) base args ds gs before hval hW (of_decide_eq_true hk)
theorem over : Rows.fnExactTickUptoRow.holds Try.pinned (Rows.OpenSpec.upto Rows.fnExactTickSpec) :=
  OpenClaim.holds_of_cond 7 Try.f7 rfl rfl rfl rfl rfl rfl rfl ⟨rfl, rfl, rfl, rfl, rfl⟩ rfl rfl rfl rfl rfl (by kernel_rfl) Try.func7 (by kernel_rfl)
    (of_decide_eq_true (by kernel_rfl)) (by unfold Func.isWrapper; first | (rw [if_pos (by decide +kernel)]; kernel_rfl) | (rw [if_neg (by decide +kernel)]; exact ⟨rfl, rfl⟩))
    (fun os started H enc _ F => lifted os started H enc F)
theorem proved : Rows.FnExactTickUptoSaid := over
#print axioms proved
end Go.Proofs.Ytokgcleggkmmoaa.LExactTick
