/- FnExactGive answers true, whatever the input of bulk at most 1048576: the code is what the translation says, the machine AM runs it, and the law holds of what it runs. -/
import Derived.Test.YtokgcleggkmmoaaRows
import Derived.Test.YtokgcleggkmmoaaLExactGiveP
import Derived.WalkKit
import Derived.ProofKit
import Derived.OpenShut
import Derived.JoinedCond
import Derived.ReadAgain
namespace Go.Proofs.Ytokgcleggkmmoaa.LExactGive
open Go.ChangeShapes Go.WideShapes Go.ChangeAt Go.RowKit
set_option linter.unusedVariables false
set_option maxRecDepth 100000
theorem k_laws_szValS : ∃ fn H L, Try.prog.funcs[AM.n_laws_szValS]? = some fn ∧ AM.compF Try.prog H L fn = some AM.a_laws_szValS := ⟨Try.f113, { lend := [], mvs := [], lst := [], pure := [] }, [], Try.func113, by kernel_rfl⟩
theorem k_laws_szFrame : ∃ fn H L, Try.prog.funcs[AM.n_laws_szFrame]? = some fn ∧ AM.compF Try.prog H L fn = some AM.a_laws_szFrame := ⟨Try.f105, { lend := [], mvs := [], lst := [], pure := [] }, [], Try.func105, by kernel_rfl⟩
theorem k_laws_szFrameS : ∃ fn H L, Try.prog.funcs[AM.n_laws_szFrameS]? = some fn ∧ AM.compF Try.prog H L fn = some AM.a_laws_szFrameS := ⟨Try.f75, { lend := [], mvs := [], lst := [], pure := [] }, [[0, 1, 5]], Try.func75, by kernel_rfl⟩
theorem k_laws_szThread : ∃ fn H L, Try.prog.funcs[AM.n_laws_szThread]? = some fn ∧ AM.compF Try.prog H L fn = some AM.a_laws_szThread := ⟨Try.f35, { lend := [], mvs := [], lst := [], pure := [] }, [], Try.func35, by kernel_rfl⟩
theorem k_laws_toVal : ∃ fn H L, Try.prog.funcs[AM.n_laws_toVal]? = some fn ∧ AM.compF Try.prog H L fn = some AM.a_laws_toVal := ⟨Try.f38, { lend := [], mvs := [], lst := [], pure := [] }, [], Try.func38, by kernel_rfl⟩
theorem k_laws_toValS : ∃ fn H L, Try.prog.funcs[AM.n_laws_toValS]? = some fn ∧ AM.compF Try.prog H L fn = some AM.a_laws_toValS := ⟨Try.f114, { lend := [], mvs := [], lst := [], pure := [] }, [[0, 3, 4]], Try.func114, by kernel_rfl⟩
theorem k_laws_toFrame : ∃ fn H L, Try.prog.funcs[AM.n_laws_toFrame]? = some fn ∧ AM.compF Try.prog H L fn = some AM.a_laws_toFrame := ⟨Try.f106, { lend := [], mvs := [], lst := [], pure := [] }, [], Try.func106, by kernel_rfl⟩
theorem k_laws_toFrameS : ∃ fn H L, Try.prog.funcs[AM.n_laws_toFrameS]? = some fn ∧ AM.compF Try.prog H L fn = some AM.a_laws_toFrameS := ⟨Try.f78, { lend := [], mvs := [], lst := [], pure := [] }, [[0, 3, 4]], Try.func78, by kernel_rfl⟩
theorem k_laws_toThread : ∃ fn H L, Try.prog.funcs[AM.n_laws_toThread]? = some fn ∧ AM.compF Try.prog H L fn = some AM.a_laws_toThread := ⟨Try.f37, { lend := [], mvs := [], lst := [], pure := [] }, [], Try.func37, by kernel_rfl⟩
theorem k_spec_l14Copy : ∃ fn H L, Try.prog.funcs[AM.n_spec_l14Copy]? = some fn ∧ AM.compF Try.prog H L fn = some AM.a_spec_l14Copy := ⟨Try.f77, { lend := [], mvs := [], lst := [], pure := [] }, [[1, 2, 3, 4]], Try.func77, by kernel_rfl⟩
theorem k_spec_l14Put : ∃ fn H L, Try.prog.funcs[AM.n_spec_l14Put]? = some fn ∧ AM.compF Try.prog H L fn = some AM.a_spec_l14Put := ⟨Try.f76, { lend := [], mvs := [], lst := [], pure := [] }, [], Try.func76, by kernel_rfl⟩
theorem k_spec_Give : ∃ fn H L, Try.prog.funcs[AM.n_spec_Give]? = some fn ∧ AM.compF Try.prog H L fn = some AM.a_spec_Give := ⟨Try.f36, { lend := [76], mvs := [], lst := [], pure := [] }, [], Try.func36, by kernel_rfl⟩
theorem k_impl_copyVals : ∃ fn H L, Try.prog.funcs[AM.n_impl_copyVals]? = some fn ∧ AM.compF Try.prog H L fn = some AM.a_impl_copyVals := ⟨Try.f107, { lend := [], mvs := [], lst := [], pure := [] }, [], Try.func107, by kernel_rfl⟩
theorem k_impl_copyThread : ∃ fn H L, Try.prog.funcs[AM.n_impl_copyThread]? = some fn ∧ AM.compF Try.prog H L fn = some AM.a_impl_copyThread := ⟨Try.f79, { lend := [], mvs := [], lst := [], pure := [] }, [[2, 3, 14, 15, 16]], Try.func79, by kernel_rfl⟩
theorem k_impl_Give : ∃ fn H L, Try.prog.funcs[AM.n_impl_Give]? = some fn ∧ AM.compF Try.prog H L fn = some AM.a_impl_Give := ⟨Try.f39, { lend := [], mvs := [], lst := [], pure := [] }, [], Try.func39, by kernel_rfl⟩
theorem k_laws_eqVal : ∃ fn H L, Try.prog.funcs[AM.n_laws_eqVal]? = some fn ∧ AM.compF Try.prog H L fn = some AM.a_laws_eqVal := ⟨Try.f33, { lend := [], mvs := [], lst := [], pure := [] }, [], Try.func33, by kernel_rfl⟩
theorem k_laws_eqValS : ∃ fn H L, Try.prog.funcs[AM.n_laws_eqValS]? = some fn ∧ AM.compF Try.prog H L fn = some AM.a_laws_eqValS := ⟨Try.f85, { lend := [], mvs := [], lst := [], pure := [] }, [[0, 1, 5]], Try.func85, by kernel_rfl⟩
theorem k_laws_eqFrame : ∃ fn H L, Try.prog.funcs[AM.n_laws_eqFrame]? = some fn ∧ AM.compF Try.prog H L fn = some AM.a_laws_eqFrame := ⟨Try.f108, { lend := [], mvs := [], lst := [], pure := [] }, [], Try.func108, by kernel_rfl⟩
theorem k_laws_eqFrameS : ∃ fn H L, Try.prog.funcs[AM.n_laws_eqFrameS]? = some fn ∧ AM.compF Try.prog H L fn = some AM.a_laws_eqFrameS := ⟨Try.f80, { lend := [], mvs := [], lst := [], pure := [] }, [[0, 1, 5]], Try.func80, by kernel_rfl⟩
theorem k_laws_eqThread : ∃ fn H L, Try.prog.funcs[AM.n_laws_eqThread]? = some fn ∧ AM.compF Try.prog H L fn = some AM.a_laws_eqThread := ⟨Try.f40, { lend := [], mvs := [], lst := [], pure := [] }, [], Try.func40, by kernel_rfl⟩
theorem k_laws_markValS : ∃ fn H L, Try.prog.funcs[AM.n_laws_markValS]? = some fn ∧ AM.compF Try.prog H L fn = some AM.a_laws_markValS := ⟨Try.f88, { lend := [], mvs := [], lst := [], pure := [] }, [[0, 1, 5]], Try.func88, by kernel_rfl⟩
theorem k_laws_markFrameS : ∃ fn H L, Try.prog.funcs[AM.n_laws_markFrameS]? = some fn ∧ AM.compF Try.prog H L fn = some AM.a_laws_markFrameS := ⟨Try.f81, { lend := [88], mvs := [], lst := [], pure := [] }, [[0, 1, 5]], Try.func81, by kernel_rfl⟩
theorem k_laws_markThread : ∃ fn H L, Try.prog.funcs[AM.n_laws_markThread]? = some fn ∧ AM.compF Try.prog H L fn = some AM.a_laws_markThread := ⟨Try.f41, { lend := [81], mvs := [], lst := [], pure := [] }, [], Try.func41, by kernel_rfl⟩
theorem k_laws_heldValS : ∃ fn H L, Try.prog.funcs[AM.n_laws_heldValS]? = some fn ∧ AM.compF Try.prog H L fn = some AM.a_laws_heldValS := ⟨Try.f89, { lend := [], mvs := [], lst := [], pure := [] }, [[0, 1, 5]], Try.func89, by kernel_rfl⟩
theorem k_laws_heldFrameS : ∃ fn H L, Try.prog.funcs[AM.n_laws_heldFrameS]? = some fn ∧ AM.compF Try.prog H L fn = some AM.a_laws_heldFrameS := ⟨Try.f82, { lend := [], mvs := [], lst := [], pure := [] }, [[0, 1, 5]], Try.func82, by kernel_rfl⟩
theorem k_laws_heldThread : ∃ fn H L, Try.prog.funcs[AM.n_laws_heldThread]? = some fn ∧ AM.compF Try.prog H L fn = some AM.a_laws_heldThread := ⟨Try.f42, { lend := [], mvs := [], lst := [], pure := [] }, [], Try.func42, by kernel_rfl⟩
theorem k_laws_FnExactGive : ∃ fn H L, Try.prog.funcs[AM.n_laws_FnExactGive]? = some fn ∧ AM.compF Try.prog H L fn = some AM.a_laws_FnExactGive := ⟨Try.f9, { lend := [41], mvs := [], lst := [], pure := [] }, [], Try.func9, by kernel_rfl⟩
theorem all_codes : ∀ x ∈ AM.codes, ∃ fn H L, Try.prog.funcs[x.1]? = some fn ∧ AM.compF Try.prog H L fn = some x.2 := by
  unfold AM.codes
  exact List.forall_mem_cons.2 ⟨k_laws_szValS, List.forall_mem_cons.2 ⟨k_laws_szFrame, List.forall_mem_cons.2 ⟨k_laws_szFrameS, List.forall_mem_cons.2 ⟨k_laws_szThread, List.forall_mem_cons.2 ⟨k_laws_toVal, List.forall_mem_cons.2 ⟨k_laws_toValS, List.forall_mem_cons.2 ⟨k_laws_toFrame, List.forall_mem_cons.2 ⟨k_laws_toFrameS, List.forall_mem_cons.2 ⟨k_laws_toThread, List.forall_mem_cons.2 ⟨k_spec_l14Copy, List.forall_mem_cons.2 ⟨k_spec_l14Put, List.forall_mem_cons.2 ⟨k_spec_Give, List.forall_mem_cons.2 ⟨k_impl_copyVals, List.forall_mem_cons.2 ⟨k_impl_copyThread, List.forall_mem_cons.2 ⟨k_impl_Give, List.forall_mem_cons.2 ⟨k_laws_eqVal, List.forall_mem_cons.2 ⟨k_laws_eqValS, List.forall_mem_cons.2 ⟨k_laws_eqFrame, List.forall_mem_cons.2 ⟨k_laws_eqFrameS, List.forall_mem_cons.2 ⟨k_laws_eqThread, List.forall_mem_cons.2 ⟨k_laws_markValS, List.forall_mem_cons.2 ⟨k_laws_markFrameS, List.forall_mem_cons.2 ⟨k_laws_markThread, List.forall_mem_cons.2 ⟨k_laws_heldValS, List.forall_mem_cons.2 ⟨k_laws_heldFrameS, List.forall_mem_cons.2 ⟨k_laws_heldThread, List.forall_mem_cons.2 ⟨k_laws_FnExactGive, (by simp)⟩⟩⟩⟩⟩⟩⟩⟩⟩⟩⟩⟩⟩⟩⟩⟩⟩⟩⟩⟩⟩⟩⟩⟩⟩⟩⟩
theorem comps : AM.Comps Try.prog AM.Γ := AM.comps_of all_codes
theorem own : ownKnob Try.prog.godebug = none := by kernel_rfl
theorem mixed : Try.prog.follows .mixedOrders = true := by kernel_rfl
theorem kids : Kids Try.prog (· < Try.prog.types.size) := kids_rows (by kernel_rfl) (by kernel_rfl)
theorem full : ∀ t e, t < Try.prog.types.size → Try.prog.underlying t = some (.slice e) → 0 < Try.prog.cellsOf e := slices_full_of Try.prog (by kernel_rfl)
theorem one_le {H : Type} (d : DataW H) : 1 ≤ Rows.uptoBulk d := by
  cases d with
  | lit l => cases l <;> simp [Rows.uptoBulk]
  | nil => simp [Rows.uptoBulk]
  | ptr d => simp [Rows.uptoBulk]
  | slice elems spare => simp [Rows.uptoBulk]
  | agg parts => simp [Rows.uptoBulk]
  | iface t d => simp [Rows.uptoBulk]
  | map entries => simp [Rows.uptoBulk]
  | held h => simp [Rows.uptoBulk]
theorem bulk (H : Type) : AM.Bulk (H := H) Rows.uptoBulk Rows.uptoBulkAll := ⟨fun _ => by simp [Rows.uptoBulk], fun _ _ => by simp [Rows.uptoBulk], fun _ => by simp [Rows.uptoBulk], one_le, by simp [Rows.uptoBulkAll], fun _ _ => by simp [Rows.uptoBulkAll]⟩
theorem tys : Try.f9.params.toList.map (AM.tyOf Try.prog 20) = [(.struct [(.int .i64), (.slice (.struct [(.int .i64), (.int .i64), (.int .i64), (.slice (.struct [.bool, (.int .i64)])), (.slice (.struct [.bool, (.int .i64)]))])), (.int .i64), (.int .i64)]), (.struct [.bool, (.int .i64)])].map some := by kernel_rfl
theorem lifted (os : Os) (started : os.Started) (H : Type) (enc : TypeId × Value → H) (F : Stop.Interp) :
    ReturnsInHanded {} Try.checked os 9 .any ((Rows.OpenSpec.upto Rows.fnExactGiveSpec).pre6 enc Try.prog Try.f9 Rows.fnExactGiveUptoRow.domain false) (((Rows.OpenSpec.upto Rows.fnExactGiveSpec).at F).post enc Try.prog Try.f9 false true false false) := by
  refine returnsInHanded_of_cond (C := Try.checked) (s := Rows.OpenSpec.upto Rows.fnExactGiveSpec) (k := Rows.uptoSmall) rfl own started (by kernel_rfl) Try.func9
    (OpenSpec.witness (enc := enc) (C := Try.checked) (s := Rows.OpenSpec.upto Rows.fnExactGiveSpec) (k := Rows.uptoSmall) rfl false ⟨#[], #[.agg #[.int .i64 0, .slice none 0 0, .int .i64 0, .int .i64 0], .agg #[.bool false, .int .i64 0]], []⟩ 30 (by kernel_rfl) (by kernel_rfl) (by kernel_rfl)
      (x := ([.agg [.lit (.int .i64 0), .nil, .lit (.int .i64 0), .lit (.int .i64 0)], .agg [.lit (.bool false), .lit (.int .i64 0)]], [], [])) (by kernel_rfl) rfl (by kernel_rfl)) ?_
  intro W base args ds gs before hval hW _ hk _
  have hfn : ∀ ds : List (DataW H), ds.length = 2 → Rows.fnExactGiveSpec.fn H ds = { results := [.lit (.bool true)], args := ds } := by
    intro ds hd
    match ds, hd with
    | [d0, d1], _ => rfl
  exact AM.law_contract comps mixed AM.laws_FnExactGive_law (bulk H) tys rfl hfn (tb := 4) (by kernel_rfl) (by kernel_rfl) kids full (of_decide_eq_true (by kernel_rfl)) base args ds gs before hval hW (of_decide_eq_true hk)
theorem over : Rows.fnExactGiveUptoRow.holds Try.pinned (Rows.OpenSpec.upto Rows.fnExactGiveSpec) :=
  OpenClaim.holds_of_cond 9 Try.f9 rfl rfl rfl rfl rfl rfl rfl ⟨rfl, rfl, rfl, rfl, rfl⟩ rfl rfl rfl rfl rfl (by kernel_rfl) Try.func9 (by kernel_rfl)
    (of_decide_eq_true (by kernel_rfl)) (by unfold Func.isWrapper; first | (rw [if_pos (by decide +kernel)]; kernel_rfl) | (rw [if_neg (by decide +kernel)]; exact ⟨rfl, rfl⟩))
    (fun os started H enc _ F => lifted os started H enc F)
theorem proved : Rows.FnExactGiveUptoSaid := over
#print axioms proved
end Go.Proofs.Ytokgcleggkmmoaa.LExactGive
