/- FnExactFlowOk answers true, whatever the input of bulk at most 1048576: the code is what the translation says, the machine AM runs it, and the law holds of what it runs. -/
import Derived.Test.YtplemhkpafmhgaaRows
import Derived.Test.YtplemhkpafmhgaaLExactFlowOkP
import Derived.WalkKit
import Derived.ProofKit
import Derived.OpenShut
import Derived.JoinedCond
import Derived.ReadAgain
namespace Go.Proofs.Ytplemhkpafmhgaa.LExactFlowOk
open Go.ChangeShapes Go.WideShapes Go.ChangeAt Go.RowKit
set_option linter.unusedVariables false
set_option maxRecDepth 100000
theorem k_laws_szConst : ∃ fn H L, Try.prog.funcs[AM.n_laws_szConst]? = some fn ∧ AM.compF Try.prog H L fn = some AM.a_laws_szConst := ⟨Try.f125, { lend := [], mvs := [], lst := [], pure := [] }, [], Try.func125, by kernel_rfl⟩
theorem k_laws_szConstS : ∃ fn H L, Try.prog.funcs[AM.n_laws_szConstS]? = some fn ∧ AM.compF Try.prog H L fn = some AM.a_laws_szConstS := ⟨Try.f110, { lend := [], mvs := [], lst := [], pure := [] }, [[0, 1, 5]], Try.func110, by kernel_rfl⟩
theorem k_laws_szField : ∃ fn H L, Try.prog.funcs[AM.n_laws_szField]? = some fn ∧ AM.compF Try.prog H L fn = some AM.a_laws_szField := ⟨Try.f126, { lend := [], mvs := [], lst := [], pure := [] }, [], Try.func126, by kernel_rfl⟩
theorem k_laws_szFieldS : ∃ fn H L, Try.prog.funcs[AM.n_laws_szFieldS]? = some fn ∧ AM.compF Try.prog H L fn = some AM.a_laws_szFieldS := ⟨Try.f111, { lend := [], mvs := [], lst := [], pure := [] }, [[0, 1, 5]], Try.func111, by kernel_rfl⟩
theorem k_laws_szStringS : ∃ fn H L, Try.prog.funcs[AM.n_laws_szStringS]? = some fn ∧ AM.compF Try.prog H L fn = some AM.a_laws_szStringS := ⟨Try.f136, { lend := [], mvs := [], lst := [], pure := [] }, [[0, 1, 5]], Try.func136, by kernel_rfl⟩
theorem k_laws_szInsS : ∃ fn H L, Try.prog.funcs[AM.n_laws_szInsS]? = some fn ∧ AM.compF Try.prog H L fn = some AM.a_laws_szInsS := ⟨Try.f137, { lend := [], mvs := [], lst := [], pure := [] }, [], Try.func137, by kernel_rfl⟩
theorem k_laws_szCode : ∃ fn H L, Try.prog.funcs[AM.n_laws_szCode]? = some fn ∧ AM.compF Try.prog H L fn = some AM.a_laws_szCode := ⟨Try.f127, { lend := [], mvs := [], lst := [], pure := [] }, [], Try.func127, by kernel_rfl⟩
theorem k_laws_szCodeS : ∃ fn H L, Try.prog.funcs[AM.n_laws_szCodeS]? = some fn ∧ AM.compF Try.prog H L fn = some AM.a_laws_szCodeS := ⟨Try.f112, { lend := [], mvs := [], lst := [], pure := [] }, [[0, 1, 5]], Try.func112, by kernel_rfl⟩
theorem k_laws_szKind : ∃ fn H L, Try.prog.funcs[AM.n_laws_szKind]? = some fn ∧ AM.compF Try.prog H L fn = some AM.a_laws_szKind := ⟨Try.f92, { lend := [], mvs := [], lst := [], pure := [] }, [], Try.func92, by kernel_rfl⟩
theorem k_laws_szKindS : ∃ fn H L, Try.prog.funcs[AM.n_laws_szKindS]? = some fn ∧ AM.compF Try.prog H L fn = some AM.a_laws_szKindS := ⟨Try.f59, { lend := [], mvs := [], lst := [], pure := [] }, [[0, 1, 5]], Try.func59, by kernel_rfl⟩
theorem k_laws_szProg : ∃ fn H L, Try.prog.funcs[AM.n_laws_szProg]? = some fn ∧ AM.compF Try.prog H L fn = some AM.a_laws_szProg := ⟨Try.f15, { lend := [], mvs := [], lst := [], pure := [] }, [], Try.func15, by kernel_rfl⟩
theorem k_laws_szTypeS : ∃ fn H L, Try.prog.funcs[AM.n_laws_szTypeS]? = some fn ∧ AM.compF Try.prog H L fn = some AM.a_laws_szTypeS := ⟨Try.f67, { lend := [], mvs := [], lst := [], pure := [] }, [], Try.func67, by kernel_rfl⟩
theorem k_laws_szFlow : ∃ fn H L, Try.prog.funcs[AM.n_laws_szFlow]? = some fn ∧ AM.compF Try.prog H L fn = some AM.a_laws_szFlow := ⟨Try.f34, { lend := [], mvs := [], lst := [], pure := [] }, [], Try.func34, by kernel_rfl⟩
theorem k_laws_toConst : ∃ fn H L, Try.prog.funcs[AM.n_laws_toConst]? = some fn ∧ AM.compF Try.prog H L fn = some AM.a_laws_toConst := ⟨Try.f128, { lend := [], mvs := [], lst := [], pure := [] }, [], Try.func128, by kernel_rfl⟩
theorem k_laws_toConstS : ∃ fn H L, Try.prog.funcs[AM.n_laws_toConstS]? = some fn ∧ AM.compF Try.prog H L fn = some AM.a_laws_toConstS := ⟨Try.f113, { lend := [], mvs := [], lst := [], pure := [] }, [[0, 3, 4]], Try.func113, by kernel_rfl⟩
theorem k_laws_toField : ∃ fn H L, Try.prog.funcs[AM.n_laws_toField]? = some fn ∧ AM.compF Try.prog H L fn = some AM.a_laws_toField := ⟨Try.f129, { lend := [], mvs := [], lst := [], pure := [] }, [], Try.func129, by kernel_rfl⟩
theorem k_laws_toFieldS : ∃ fn H L, Try.prog.funcs[AM.n_laws_toFieldS]? = some fn ∧ AM.compF Try.prog H L fn = some AM.a_laws_toFieldS := ⟨Try.f114, { lend := [], mvs := [], lst := [], pure := [] }, [[0, 3, 4]], Try.func114, by kernel_rfl⟩
theorem k_laws_toStringS : ∃ fn H L, Try.prog.funcs[AM.n_laws_toStringS]? = some fn ∧ AM.compF Try.prog H L fn = some AM.a_laws_toStringS := ⟨Try.f138, { lend := [], mvs := [], lst := [], pure := [] }, [[0, 3, 4]], Try.func138, by kernel_rfl⟩
theorem k_laws_toIns : ∃ fn H L, Try.prog.funcs[AM.n_laws_toIns]? = some fn ∧ AM.compF Try.prog H L fn = some AM.a_laws_toIns := ⟨Try.f142, { lend := [], mvs := [], lst := [], pure := [] }, [], Try.func142, by kernel_rfl⟩
theorem k_laws_toInsS : ∃ fn H L, Try.prog.funcs[AM.n_laws_toInsS]? = some fn ∧ AM.compF Try.prog H L fn = some AM.a_laws_toInsS := ⟨Try.f139, { lend := [], mvs := [], lst := [], pure := [] }, [[0, 3, 4]], Try.func139, by kernel_rfl⟩
theorem k_laws_toCode : ∃ fn H L, Try.prog.funcs[AM.n_laws_toCode]? = some fn ∧ AM.compF Try.prog H L fn = some AM.a_laws_toCode := ⟨Try.f130, { lend := [], mvs := [], lst := [], pure := [] }, [], Try.func130, by kernel_rfl⟩
theorem k_laws_toCodeS : ∃ fn H L, Try.prog.funcs[AM.n_laws_toCodeS]? = some fn ∧ AM.compF Try.prog H L fn = some AM.a_laws_toCodeS := ⟨Try.f115, { lend := [], mvs := [], lst := [], pure := [] }, [[0, 3, 4]], Try.func115, by kernel_rfl⟩
theorem k_laws_toKind : ∃ fn H L, Try.prog.funcs[AM.n_laws_toKind]? = some fn ∧ AM.compF Try.prog H L fn = some AM.a_laws_toKind := ⟨Try.f93, { lend := [], mvs := [], lst := [], pure := [] }, [], Try.func93, by kernel_rfl⟩
theorem k_laws_toKindS : ∃ fn H L, Try.prog.funcs[AM.n_laws_toKindS]? = some fn ∧ AM.compF Try.prog H L fn = some AM.a_laws_toKindS := ⟨Try.f61, { lend := [], mvs := [], lst := [], pure := [] }, [[0, 3, 4]], Try.func61, by kernel_rfl⟩
theorem k_laws_toProg : ∃ fn H L, Try.prog.funcs[AM.n_laws_toProg]? = some fn ∧ AM.compF Try.prog H L fn = some AM.a_laws_toProg := ⟨Try.f17, { lend := [], mvs := [], lst := [], pure := [] }, [], Try.func17, by kernel_rfl⟩
theorem k_laws_toType : ∃ fn H L, Try.prog.funcs[AM.n_laws_toType]? = some fn ∧ AM.compF Try.prog H L fn = some AM.a_laws_toType := ⟨Try.f18, { lend := [], mvs := [], lst := [], pure := [] }, [], Try.func18, by kernel_rfl⟩
theorem k_laws_toTypeS : ∃ fn H L, Try.prog.funcs[AM.n_laws_toTypeS]? = some fn ∧ AM.compF Try.prog H L fn = some AM.a_laws_toTypeS := ⟨Try.f68, { lend := [], mvs := [], lst := [], pure := [] }, [[0, 3, 4]], Try.func68, by kernel_rfl⟩
theorem k_laws_toFlow : ∃ fn H L, Try.prog.funcs[AM.n_laws_toFlow]? = some fn ∧ AM.compF Try.prog H L fn = some AM.a_laws_toFlow := ⟨Try.f36, { lend := [], mvs := [], lst := [], pure := [] }, [], Try.func36, by kernel_rfl⟩
theorem k_spec_l1In : ∃ fn H L, Try.prog.funcs[AM.n_spec_l1In]? = some fn ∧ AM.compF Try.prog H L fn = some AM.a_spec_l1In := ⟨Try.f60, { lend := [], mvs := [], lst := [], pure := [] }, [], Try.func60, by kernel_rfl⟩
theorem k_spec_TypeOk : ∃ fn H L, Try.prog.funcs[AM.n_spec_TypeOk]? = some fn ∧ AM.compF Try.prog H L fn = some AM.a_spec_TypeOk := ⟨Try.f16, { lend := [], mvs := [], lst := [], pure := [] }, [], Try.func16, by kernel_rfl⟩
theorem k_spec_FlowOk : ∃ fn H L, Try.prog.funcs[AM.n_spec_FlowOk]? = some fn ∧ AM.compF Try.prog H L fn = some AM.a_spec_FlowOk := ⟨Try.f35, { lend := [], mvs := [], lst := [], pure := [] }, [[2, 3, 5], [2, 3, 6]], Try.func35, by kernel_rfl⟩
theorem k_impl_within : ∃ fn H L, Try.prog.funcs[AM.n_impl_within]? = some fn ∧ AM.compF Try.prog H L fn = some AM.a_impl_within := ⟨Try.f62, { lend := [], mvs := [], lst := [], pure := [] }, [], Try.func62, by kernel_rfl⟩
theorem k_impl_TypeOk : ∃ fn H L, Try.prog.funcs[AM.n_impl_TypeOk]? = some fn ∧ AM.compF Try.prog H L fn = some AM.a_impl_TypeOk := ⟨Try.f19, { lend := [], mvs := [], lst := [], pure := [] }, [], Try.func19, by kernel_rfl⟩
theorem k_impl_FlowOk : ∃ fn H L, Try.prog.funcs[AM.n_impl_FlowOk]? = some fn ∧ AM.compF Try.prog H L fn = some AM.a_impl_FlowOk := ⟨Try.f37, { lend := [], mvs := [], lst := [], pure := [] }, [[2, 3, 10, 11, 12], [2, 3, 22, 23, 24]], Try.func37, by kernel_rfl⟩
theorem k_laws_eqConst : ∃ fn H L, Try.prog.funcs[AM.n_laws_eqConst]? = some fn ∧ AM.compF Try.prog H L fn = some AM.a_laws_eqConst := ⟨Try.f131, { lend := [], mvs := [], lst := [], pure := [] }, [], Try.func131, by kernel_rfl⟩
theorem k_laws_eqConstS : ∃ fn H L, Try.prog.funcs[AM.n_laws_eqConstS]? = some fn ∧ AM.compF Try.prog H L fn = some AM.a_laws_eqConstS := ⟨Try.f116, { lend := [], mvs := [], lst := [], pure := [] }, [[0, 1, 5]], Try.func116, by kernel_rfl⟩
theorem k_laws_eqField : ∃ fn H L, Try.prog.funcs[AM.n_laws_eqField]? = some fn ∧ AM.compF Try.prog H L fn = some AM.a_laws_eqField := ⟨Try.f132, { lend := [], mvs := [], lst := [], pure := [] }, [], Try.func132, by kernel_rfl⟩
theorem k_laws_eqFieldS : ∃ fn H L, Try.prog.funcs[AM.n_laws_eqFieldS]? = some fn ∧ AM.compF Try.prog H L fn = some AM.a_laws_eqFieldS := ⟨Try.f117, { lend := [], mvs := [], lst := [], pure := [] }, [[0, 1, 5]], Try.func117, by kernel_rfl⟩
theorem k_laws_eqStringS : ∃ fn H L, Try.prog.funcs[AM.n_laws_eqStringS]? = some fn ∧ AM.compF Try.prog H L fn = some AM.a_laws_eqStringS := ⟨Try.f140, { lend := [], mvs := [], lst := [], pure := [] }, [[0, 1, 5]], Try.func140, by kernel_rfl⟩
theorem k_laws_eqIns : ∃ fn H L, Try.prog.funcs[AM.n_laws_eqIns]? = some fn ∧ AM.compF Try.prog H L fn = some AM.a_laws_eqIns := ⟨Try.f143, { lend := [], mvs := [], lst := [], pure := [] }, [], Try.func143, by kernel_rfl⟩
theorem k_laws_eqInsS : ∃ fn H L, Try.prog.funcs[AM.n_laws_eqInsS]? = some fn ∧ AM.compF Try.prog H L fn = some AM.a_laws_eqInsS := ⟨Try.f141, { lend := [], mvs := [], lst := [], pure := [] }, [[0, 1, 5]], Try.func141, by kernel_rfl⟩
theorem k_laws_eqCode : ∃ fn H L, Try.prog.funcs[AM.n_laws_eqCode]? = some fn ∧ AM.compF Try.prog H L fn = some AM.a_laws_eqCode := ⟨Try.f133, { lend := [], mvs := [], lst := [], pure := [] }, [], Try.func133, by kernel_rfl⟩
theorem k_laws_eqCodeS : ∃ fn H L, Try.prog.funcs[AM.n_laws_eqCodeS]? = some fn ∧ AM.compF Try.prog H L fn = some AM.a_laws_eqCodeS := ⟨Try.f118, { lend := [], mvs := [], lst := [], pure := [] }, [[0, 1, 5]], Try.func118, by kernel_rfl⟩
theorem k_laws_eqKind : ∃ fn H L, Try.prog.funcs[AM.n_laws_eqKind]? = some fn ∧ AM.compF Try.prog H L fn = some AM.a_laws_eqKind := ⟨Try.f94, { lend := [], mvs := [], lst := [], pure := [] }, [], Try.func94, by kernel_rfl⟩
theorem k_laws_eqKindS : ∃ fn H L, Try.prog.funcs[AM.n_laws_eqKindS]? = some fn ∧ AM.compF Try.prog H L fn = some AM.a_laws_eqKindS := ⟨Try.f63, { lend := [], mvs := [], lst := [], pure := [] }, [[0, 1, 5]], Try.func63, by kernel_rfl⟩
theorem k_laws_eqProg : ∃ fn H L, Try.prog.funcs[AM.n_laws_eqProg]? = some fn ∧ AM.compF Try.prog H L fn = some AM.a_laws_eqProg := ⟨Try.f20, { lend := [], mvs := [], lst := [], pure := [] }, [], Try.func20, by kernel_rfl⟩
theorem k_laws_eqType : ∃ fn H L, Try.prog.funcs[AM.n_laws_eqType]? = some fn ∧ AM.compF Try.prog H L fn = some AM.a_laws_eqType := ⟨Try.f29, { lend := [], mvs := [], lst := [], pure := [] }, [], Try.func29, by kernel_rfl⟩
theorem k_laws_eqTypeS : ∃ fn H L, Try.prog.funcs[AM.n_laws_eqTypeS]? = some fn ∧ AM.compF Try.prog H L fn = some AM.a_laws_eqTypeS := ⟨Try.f69, { lend := [], mvs := [], lst := [], pure := [] }, [[0, 1, 5]], Try.func69, by kernel_rfl⟩
theorem k_laws_eqFlow : ∃ fn H L, Try.prog.funcs[AM.n_laws_eqFlow]? = some fn ∧ AM.compF Try.prog H L fn = some AM.a_laws_eqFlow := ⟨Try.f38, { lend := [], mvs := [], lst := [], pure := [] }, [], Try.func38, by kernel_rfl⟩
theorem k_laws_FnExactFlowOk : ∃ fn H L, Try.prog.funcs[AM.n_laws_FnExactFlowOk]? = some fn ∧ AM.compF Try.prog H L fn = some AM.a_laws_FnExactFlowOk := ⟨Try.f10, { lend := [], mvs := [], lst := [], pure := [] }, [], Try.func10, by kernel_rfl⟩
theorem all_codes : ∀ x ∈ AM.codes, ∃ fn H L, Try.prog.funcs[x.1]? = some fn ∧ AM.compF Try.prog H L fn = some x.2 := by
  unfold AM.codes
  exact List.forall_mem_cons.2 ⟨k_laws_szConst, List.forall_mem_cons.2 ⟨k_laws_szConstS, List.forall_mem_cons.2 ⟨k_laws_szField, List.forall_mem_cons.2 ⟨k_laws_szFieldS, List.forall_mem_cons.2 ⟨k_laws_szStringS, List.forall_mem_cons.2 ⟨k_laws_szInsS, List.forall_mem_cons.2 ⟨k_laws_szCode, List.forall_mem_cons.2 ⟨k_laws_szCodeS, List.forall_mem_cons.2 ⟨k_laws_szKind, List.forall_mem_cons.2 ⟨k_laws_szKindS, List.forall_mem_cons.2 ⟨k_laws_szProg, List.forall_mem_cons.2 ⟨k_laws_szTypeS, List.forall_mem_cons.2 ⟨k_laws_szFlow, List.forall_mem_cons.2 ⟨k_laws_toConst, List.forall_mem_cons.2 ⟨k_laws_toConstS, List.forall_mem_cons.2 ⟨k_laws_toField, List.forall_mem_cons.2 ⟨k_laws_toFieldS, List.forall_mem_cons.2 ⟨k_laws_toStringS, List.forall_mem_cons.2 ⟨k_laws_toIns, List.forall_mem_cons.2 ⟨k_laws_toInsS, List.forall_mem_cons.2 ⟨k_laws_toCode, List.forall_mem_cons.2 ⟨k_laws_toCodeS, List.forall_mem_cons.2 ⟨k_laws_toKind, List.forall_mem_cons.2 ⟨k_laws_toKindS, List.forall_mem_cons.2 ⟨k_laws_toProg, List.forall_mem_cons.2 ⟨k_laws_toType, List.forall_mem_cons.2 ⟨k_laws_toTypeS, List.forall_mem_cons.2 ⟨k_laws_toFlow, List.forall_mem_cons.2 ⟨k_spec_l1In, List.forall_mem_cons.2 ⟨k_spec_TypeOk, List.forall_mem_cons.2 ⟨k_spec_FlowOk, List.forall_mem_cons.2 ⟨k_impl_within, List.forall_mem_cons.2 ⟨k_impl_TypeOk, List.forall_mem_cons.2 ⟨k_impl_FlowOk, List.forall_mem_cons.2 ⟨k_laws_eqConst, List.forall_mem_cons.2 ⟨k_laws_eqConstS, List.forall_mem_cons.2 ⟨k_laws_eqField, List.forall_mem_cons.2 ⟨k_laws_eqFieldS, List.forall_mem_cons.2 ⟨k_laws_eqStringS, List.forall_mem_cons.2 ⟨k_laws_eqIns, List.forall_mem_cons.2 ⟨k_laws_eqInsS, List.forall_mem_cons.2 ⟨k_laws_eqCode, List.forall_mem_cons.2 ⟨k_laws_eqCodeS, List.forall_mem_cons.2 ⟨k_laws_eqKind, List.forall_mem_cons.2 ⟨k_laws_eqKindS, List.forall_mem_cons.2 ⟨k_laws_eqProg, List.forall_mem_cons.2 ⟨k_laws_eqType, List.forall_mem_cons.2 ⟨k_laws_eqTypeS, List.forall_mem_cons.2 ⟨k_laws_eqFlow, List.forall_mem_cons.2 ⟨k_laws_FnExactFlowOk, (by simp)⟩⟩⟩⟩⟩⟩⟩⟩⟩⟩⟩⟩⟩⟩⟩⟩⟩⟩⟩⟩⟩⟩⟩⟩⟩⟩⟩⟩⟩⟩⟩⟩⟩⟩⟩⟩⟩⟩⟩⟩⟩⟩⟩⟩⟩⟩⟩⟩⟩⟩
theorem comps : AM.Comps Try.prog AM.Γ := AM.comps_of all_codes
theorem own : ownKnob Try.prog.godebug = none := by kernel_rfl
theorem mixed : Try.prog.follows .mixedOrders = true := by kernel_rfl
theorem kids : Kids Try.prog (· < Try.prog.types.size) := kids_rows (by kernel_rfl) (by kernel_rfl)
theorem full : ∀ t e, t < Try.prog.types.size → Try.prog.underlying t = some (.slice e) → 0 < Try.prog.cellsOf e := slices_full_of Try.prog (by kernel_rfl)
theorem one_le {H : Type} (d : DataW H) : 1 ≤ Rows.uptoBulk d := by
  cases d with
  | lit l => cases l <;> simp [Rows.uptoBulk]
  | nil => simp [Rows.uptoBulk]
  | ptr d => simp [Rows.uptoBulk]
  | slice elems spare => simp [Rows.uptoBulk]
  | agg parts => simp [Rows.uptoBulk]
  | iface t d => simp [Rows.uptoBulk]
  | map entries => simp [Rows.uptoBulk]
  | held h => simp [Rows.uptoBulk]
theorem bulk (H : Type) : AM.Bulk (H := H) Rows.uptoBulk Rows.uptoBulkAll := ⟨fun _ => by simp [Rows.uptoBulk], fun _ _ => by simp [Rows.uptoBulk], fun _ => by simp [Rows.uptoBulk], one_le, by simp [Rows.uptoBulkAll], fun _ _ => by simp [Rows.uptoBulkAll]⟩
theorem tys : Try.f10.params.toList.map (AM.tyOf Try.prog 20) = [(.struct [(.slice (.struct [.str, (.int .i64), (.slice (.struct [(.int .i64), (.int .i64), .str, .str])), (.slice (.struct [.str, .str])), (.slice (.struct [.str, (.int .i64), (.slice .str), .str, (.int .i64), (.slice (.struct [(.int .i64), (.int .i64)]))]))]))]), (.struct [(.slice (.struct [(.int .i64), (.int .i64)])), (.slice (.struct [(.int .i64), (.int .i64)])), (.int .i64)])].map some := by kernel_rfl
theorem lifted (os : Os) (started : os.Started) (H : Type) (enc : TypeId × Value → H) (F : Stop.Interp) :
    ReturnsInHanded {} Try.checked os 10 .any ((Rows.OpenSpec.upto Rows.fnExactFlowOkSpec).pre6 enc Try.prog Try.f10 Rows.fnExactFlowOkUptoRow.domain false) (((Rows.OpenSpec.upto Rows.fnExactFlowOkSpec).at F).post enc Try.prog Try.f10 false true false false) := by
  refine returnsInHanded_of_cond (C := Try.checked) (s := Rows.OpenSpec.upto Rows.fnExactFlowOkSpec) (k := Rows.uptoSmall) rfl own started (by kernel_rfl) Try.func10
    (OpenSpec.witness (enc := enc) (C := Try.checked) (s := Rows.OpenSpec.upto Rows.fnExactFlowOkSpec) (k := Rows.uptoSmall) rfl false ⟨#[], #[.agg #[.slice none 0 0], .agg #[.slice none 0 0, .slice none 0 0, .int .i64 0]], []⟩ 30 (by kernel_rfl) (by kernel_rfl) (by kernel_rfl)
      (x := ([.agg [.nil], .agg [.nil, .nil, .lit (.int .i64 0)]], [], [])) (by kernel_rfl) rfl (by kernel_rfl)) ?_
  intro W base args ds gs before hval hW _ hk _
  have hfn : ∀ ds : List (DataW H), ds.length = 2 → Rows.fnExactFlowOkSpec.fn H ds = { results := [.lit (.bool true)], args := ds } := by
    intro ds hd
    match ds, hd with
    | [d0, d1], _ => rfl
  exact AM.law_contract comps mixed AM.laws_FnExactFlowOk_law (bulk H) tys rfl hfn (tb := 4) (by kernel_rfl) (by kernel_rfl) kids full (of_decide_eq_true (by kernel_rfl)) base args ds gs before hval hW (of_decide_eq_true hk)
theorem over : Rows.fnExactFlowOkUptoRow.holds Try.pinned (Rows.OpenSpec.upto Rows.fnExactFlowOkSpec) :=
  OpenClaim.holds_of_cond 10 Try.f10 rfl rfl rfl rfl rfl rfl rfl ⟨rfl, rfl, rfl, rfl, rfl⟩ rfl rfl rfl rfl rfl (by kernel_rfl) Try.func10 (by kernel_rfl)
    (of_decide_eq_true (by kernel_rfl)) (by unfold Func.isWrapper; first | (rw [if_pos (by decide +kernel)]; kernel_rfl) | (rw [if_neg (by decide +kernel)]; exact ⟨rfl, rfl⟩))
    (fun os started H enc _ F => lifted os started H enc F)
theorem proved : Rows.FnExactFlowOkUptoSaid := over
#print axioms proved
end Go.Proofs.Ytplemhkpafmhgaa.LExactFlowOk
