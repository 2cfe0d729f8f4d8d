/- FnExactKindOf answers true, whatever the input of bulk at most 1048576: the code is what the translation says, the machine AM runs it, and the law holds of what it runs. -/
import Derived.Test.YtokgcleggkmmoaaRows
import Derived.Test.YtokgcleggkmmoaaLExactKindOfP
import Derived.WalkKit
import Derived.ProofKit
import Derived.OpenShut
import Derived.JoinedCond
import Derived.ReadAgain
namespace Go.Proofs.Ytokgcleggkmmoaa.LExactKindOf
open Go.ChangeShapes Go.WideShapes Go.ChangeAt Go.RowKit
set_option linter.unusedVariables false
set_option maxRecDepth 100000
theorem k_laws_szConst : ∃ fn H L, Try.prog.funcs[AM.n_laws_szConst]? = some fn ∧ AM.compF Try.prog H L fn = some AM.a_laws_szConst := ⟨Try.f124, { lend := [], mvs := [], lst := [], pure := [] }, [], Try.func124, by kernel_rfl⟩
theorem k_laws_szConstS : ∃ fn H L, Try.prog.funcs[AM.n_laws_szConstS]? = some fn ∧ AM.compF Try.prog H L fn = some AM.a_laws_szConstS := ⟨Try.f115, { lend := [], mvs := [], lst := [], pure := [] }, [[0, 1, 5]], Try.func115, by kernel_rfl⟩
theorem k_laws_szField : ∃ fn H L, Try.prog.funcs[AM.n_laws_szField]? = some fn ∧ AM.compF Try.prog H L fn = some AM.a_laws_szField := ⟨Try.f125, { lend := [], mvs := [], lst := [], pure := [] }, [], Try.func125, by kernel_rfl⟩
theorem k_laws_szFieldS : ∃ fn H L, Try.prog.funcs[AM.n_laws_szFieldS]? = some fn ∧ AM.compF Try.prog H L fn = some AM.a_laws_szFieldS := ⟨Try.f116, { lend := [], mvs := [], lst := [], pure := [] }, [[0, 1, 5]], Try.func116, by kernel_rfl⟩
theorem k_laws_szStringS : ∃ fn H L, Try.prog.funcs[AM.n_laws_szStringS]? = some fn ∧ AM.compF Try.prog H L fn = some AM.a_laws_szStringS := ⟨Try.f133, { lend := [], mvs := [], lst := [], pure := [] }, [[0, 1, 5]], Try.func133, by kernel_rfl⟩
theorem k_laws_szInsS : ∃ fn H L, Try.prog.funcs[AM.n_laws_szInsS]? = some fn ∧ AM.compF Try.prog H L fn = some AM.a_laws_szInsS := ⟨Try.f134, { lend := [], mvs := [], lst := [], pure := [] }, [], Try.func134, by kernel_rfl⟩
theorem k_laws_szCode : ∃ fn H L, Try.prog.funcs[AM.n_laws_szCode]? = some fn ∧ AM.compF Try.prog H L fn = some AM.a_laws_szCode := ⟨Try.f126, { lend := [], mvs := [], lst := [], pure := [] }, [], Try.func126, by kernel_rfl⟩
theorem k_laws_szCodeS : ∃ fn H L, Try.prog.funcs[AM.n_laws_szCodeS]? = some fn ∧ AM.compF Try.prog H L fn = some AM.a_laws_szCodeS := ⟨Try.f117, { lend := [], mvs := [], lst := [], pure := [] }, [[0, 1, 5]], Try.func117, by kernel_rfl⟩
theorem k_laws_szKind : ∃ fn H L, Try.prog.funcs[AM.n_laws_szKind]? = some fn ∧ AM.compF Try.prog H L fn = some AM.a_laws_szKind := ⟨Try.f110, { lend := [], mvs := [], lst := [], pure := [] }, [], Try.func110, by kernel_rfl⟩
theorem k_laws_szKindS : ∃ fn H L, Try.prog.funcs[AM.n_laws_szKindS]? = some fn ∧ AM.compF Try.prog H L fn = some AM.a_laws_szKindS := ⟨Try.f97, { lend := [], mvs := [], lst := [], pure := [] }, [[0, 1, 5]], Try.func97, by kernel_rfl⟩
theorem k_laws_szProg : ∃ fn H L, Try.prog.funcs[AM.n_laws_szProg]? = some fn ∧ AM.compF Try.prog H L fn = some AM.a_laws_szProg := ⟨Try.f54, { lend := [], mvs := [], lst := [], pure := [] }, [], Try.func54, by kernel_rfl⟩
theorem k_laws_toConst : ∃ fn H L, Try.prog.funcs[AM.n_laws_toConst]? = some fn ∧ AM.compF Try.prog H L fn = some AM.a_laws_toConst := ⟨Try.f127, { lend := [], mvs := [], lst := [], pure := [] }, [], Try.func127, by kernel_rfl⟩
theorem k_laws_toConstS : ∃ fn H L, Try.prog.funcs[AM.n_laws_toConstS]? = some fn ∧ AM.compF Try.prog H L fn = some AM.a_laws_toConstS := ⟨Try.f118, { lend := [], mvs := [], lst := [], pure := [] }, [[0, 3, 4]], Try.func118, by kernel_rfl⟩
theorem k_laws_toField : ∃ fn H L, Try.prog.funcs[AM.n_laws_toField]? = some fn ∧ AM.compF Try.prog H L fn = some AM.a_laws_toField := ⟨Try.f128, { lend := [], mvs := [], lst := [], pure := [] }, [], Try.func128, by kernel_rfl⟩
theorem k_laws_toFieldS : ∃ fn H L, Try.prog.funcs[AM.n_laws_toFieldS]? = some fn ∧ AM.compF Try.prog H L fn = some AM.a_laws_toFieldS := ⟨Try.f119, { lend := [], mvs := [], lst := [], pure := [] }, [[0, 3, 4]], Try.func119, by kernel_rfl⟩
theorem k_laws_toStringS : ∃ fn H L, Try.prog.funcs[AM.n_laws_toStringS]? = some fn ∧ AM.compF Try.prog H L fn = some AM.a_laws_toStringS := ⟨Try.f135, { lend := [], mvs := [], lst := [], pure := [] }, [[0, 3, 4]], Try.func135, by kernel_rfl⟩
theorem k_laws_toIns : ∃ fn H L, Try.prog.funcs[AM.n_laws_toIns]? = some fn ∧ AM.compF Try.prog H L fn = some AM.a_laws_toIns := ⟨Try.f139, { lend := [], mvs := [], lst := [], pure := [] }, [], Try.func139, by kernel_rfl⟩
theorem k_laws_toInsS : ∃ fn H L, Try.prog.funcs[AM.n_laws_toInsS]? = some fn ∧ AM.compF Try.prog H L fn = some AM.a_laws_toInsS := ⟨Try.f136, { lend := [], mvs := [], lst := [], pure := [] }, [[0, 3, 4]], Try.func136, by kernel_rfl⟩
theorem k_laws_toCode : ∃ fn H L, Try.prog.funcs[AM.n_laws_toCode]? = some fn ∧ AM.compF Try.prog H L fn = some AM.a_laws_toCode := ⟨Try.f129, { lend := [], mvs := [], lst := [], pure := [] }, [], Try.func129, by kernel_rfl⟩
theorem k_laws_toCodeS : ∃ fn H L, Try.prog.funcs[AM.n_laws_toCodeS]? = some fn ∧ AM.compF Try.prog H L fn = some AM.a_laws_toCodeS := ⟨Try.f120, { lend := [], mvs := [], lst := [], pure := [] }, [[0, 3, 4]], Try.func120, by kernel_rfl⟩
theorem k_laws_toKind : ∃ fn H L, Try.prog.funcs[AM.n_laws_toKind]? = some fn ∧ AM.compF Try.prog H L fn = some AM.a_laws_toKind := ⟨Try.f111, { lend := [], mvs := [], lst := [], pure := [] }, [], Try.func111, by kernel_rfl⟩
theorem k_laws_toKindS : ∃ fn H L, Try.prog.funcs[AM.n_laws_toKindS]? = some fn ∧ AM.compF Try.prog H L fn = some AM.a_laws_toKindS := ⟨Try.f98, { lend := [], mvs := [], lst := [], pure := [] }, [[0, 3, 4]], Try.func98, by kernel_rfl⟩
theorem k_laws_toProg : ∃ fn H L, Try.prog.funcs[AM.n_laws_toProg]? = some fn ∧ AM.compF Try.prog H L fn = some AM.a_laws_toProg := ⟨Try.f56, { lend := [], mvs := [], lst := [], pure := [] }, [], Try.func56, by kernel_rfl⟩
theorem k_spec_KindOf : ∃ fn H L, Try.prog.funcs[AM.n_spec_KindOf]? = some fn ∧ AM.compF Try.prog H L fn = some AM.a_spec_KindOf := ⟨Try.f55, { lend := [], mvs := [], lst := [], pure := [] }, [[1, 2, 5]], Try.func55, by kernel_rfl⟩
theorem k_impl_KindOf : ∃ fn H L, Try.prog.funcs[AM.n_impl_KindOf]? = some fn ∧ AM.compF Try.prog H L fn = some AM.a_impl_KindOf := ⟨Try.f57, { lend := [], mvs := [], lst := [], pure := [] }, [[1, 8, 9, 10]], Try.func57, by kernel_rfl⟩
theorem k_laws_eqConst : ∃ fn H L, Try.prog.funcs[AM.n_laws_eqConst]? = some fn ∧ AM.compF Try.prog H L fn = some AM.a_laws_eqConst := ⟨Try.f130, { lend := [], mvs := [], lst := [], pure := [] }, [], Try.func130, by kernel_rfl⟩
theorem k_laws_eqConstS : ∃ fn H L, Try.prog.funcs[AM.n_laws_eqConstS]? = some fn ∧ AM.compF Try.prog H L fn = some AM.a_laws_eqConstS := ⟨Try.f121, { lend := [], mvs := [], lst := [], pure := [] }, [[0, 1, 5]], Try.func121, by kernel_rfl⟩
theorem k_laws_eqField : ∃ fn H L, Try.prog.funcs[AM.n_laws_eqField]? = some fn ∧ AM.compF Try.prog H L fn = some AM.a_laws_eqField := ⟨Try.f131, { lend := [], mvs := [], lst := [], pure := [] }, [], Try.func131, by kernel_rfl⟩
theorem k_laws_eqFieldS : ∃ fn H L, Try.prog.funcs[AM.n_laws_eqFieldS]? = some fn ∧ AM.compF Try.prog H L fn = some AM.a_laws_eqFieldS := ⟨Try.f122, { lend := [], mvs := [], lst := [], pure := [] }, [[0, 1, 5]], Try.func122, by kernel_rfl⟩
theorem k_laws_eqStringS : ∃ fn H L, Try.prog.funcs[AM.n_laws_eqStringS]? = some fn ∧ AM.compF Try.prog H L fn = some AM.a_laws_eqStringS := ⟨Try.f137, { lend := [], mvs := [], lst := [], pure := [] }, [[0, 1, 5]], Try.func137, by kernel_rfl⟩
theorem k_laws_eqIns : ∃ fn H L, Try.prog.funcs[AM.n_laws_eqIns]? = some fn ∧ AM.compF Try.prog H L fn = some AM.a_laws_eqIns := ⟨Try.f140, { lend := [], mvs := [], lst := [], pure := [] }, [], Try.func140, by kernel_rfl⟩
theorem k_laws_eqInsS : ∃ fn H L, Try.prog.funcs[AM.n_laws_eqInsS]? = some fn ∧ AM.compF Try.prog H L fn = some AM.a_laws_eqInsS := ⟨Try.f138, { lend := [], mvs := [], lst := [], pure := [] }, [[0, 1, 5]], Try.func138, by kernel_rfl⟩
theorem k_laws_eqCode : ∃ fn H L, Try.prog.funcs[AM.n_laws_eqCode]? = some fn ∧ AM.compF Try.prog H L fn = some AM.a_laws_eqCode := ⟨Try.f132, { lend := [], mvs := [], lst := [], pure := [] }, [], Try.func132, by kernel_rfl⟩
theorem k_laws_eqCodeS : ∃ fn H L, Try.prog.funcs[AM.n_laws_eqCodeS]? = some fn ∧ AM.compF Try.prog H L fn = some AM.a_laws_eqCodeS := ⟨Try.f123, { lend := [], mvs := [], lst := [], pure := [] }, [[0, 1, 5]], Try.func123, by kernel_rfl⟩
theorem k_laws_eqKind : ∃ fn H L, Try.prog.funcs[AM.n_laws_eqKind]? = some fn ∧ AM.compF Try.prog H L fn = some AM.a_laws_eqKind := ⟨Try.f112, { lend := [], mvs := [], lst := [], pure := [] }, [], Try.func112, by kernel_rfl⟩
theorem k_laws_eqKindS : ∃ fn H L, Try.prog.funcs[AM.n_laws_eqKindS]? = some fn ∧ AM.compF Try.prog H L fn = some AM.a_laws_eqKindS := ⟨Try.f99, { lend := [], mvs := [], lst := [], pure := [] }, [[0, 1, 5]], Try.func99, by kernel_rfl⟩
theorem k_laws_eqProg : ∃ fn H L, Try.prog.funcs[AM.n_laws_eqProg]? = some fn ∧ AM.compF Try.prog H L fn = some AM.a_laws_eqProg := ⟨Try.f58, { lend := [], mvs := [], lst := [], pure := [] }, [], Try.func58, by kernel_rfl⟩
theorem k_laws_FnExactKindOf : ∃ fn H L, Try.prog.funcs[AM.n_laws_FnExactKindOf]? = some fn ∧ AM.compF Try.prog H L fn = some AM.a_laws_FnExactKindOf := ⟨Try.f13, { lend := [], mvs := [], lst := [], pure := [] }, [], Try.func13, by kernel_rfl⟩
theorem all_codes : ∀ x ∈ AM.codes, ∃ fn H L, Try.prog.funcs[x.1]? = some fn ∧ AM.compF Try.prog H L fn = some x.2 := by
  unfold AM.codes
  exact List.forall_mem_cons.2 ⟨k_laws_szConst, List.forall_mem_cons.2 ⟨k_laws_szConstS, List.forall_mem_cons.2 ⟨k_laws_szField, List.forall_mem_cons.2 ⟨k_laws_szFieldS, List.forall_mem_cons.2 ⟨k_laws_szStringS, List.forall_mem_cons.2 ⟨k_laws_szInsS, List.forall_mem_cons.2 ⟨k_laws_szCode, List.forall_mem_cons.2 ⟨k_laws_szCodeS, List.forall_mem_cons.2 ⟨k_laws_szKind, List.forall_mem_cons.2 ⟨k_laws_szKindS, List.forall_mem_cons.2 ⟨k_laws_szProg, List.forall_mem_cons.2 ⟨k_laws_toConst, List.forall_mem_cons.2 ⟨k_laws_toConstS, List.forall_mem_cons.2 ⟨k_laws_toField, List.forall_mem_cons.2 ⟨k_laws_toFieldS, List.forall_mem_cons.2 ⟨k_laws_toStringS, List.forall_mem_cons.2 ⟨k_laws_toIns, List.forall_mem_cons.2 ⟨k_laws_toInsS, List.forall_mem_cons.2 ⟨k_laws_toCode, List.forall_mem_cons.2 ⟨k_laws_toCodeS, List.forall_mem_cons.2 ⟨k_laws_toKind, List.forall_mem_cons.2 ⟨k_laws_toKindS, List.forall_mem_cons.2 ⟨k_laws_toProg, List.forall_mem_cons.2 ⟨k_spec_KindOf, List.forall_mem_cons.2 ⟨k_impl_KindOf, List.forall_mem_cons.2 ⟨k_laws_eqConst, List.forall_mem_cons.2 ⟨k_laws_eqConstS, List.forall_mem_cons.2 ⟨k_laws_eqField, List.forall_mem_cons.2 ⟨k_laws_eqFieldS, List.forall_mem_cons.2 ⟨k_laws_eqStringS, List.forall_mem_cons.2 ⟨k_laws_eqIns, List.forall_mem_cons.2 ⟨k_laws_eqInsS, List.forall_mem_cons.2 ⟨k_laws_eqCode, List.forall_mem_cons.2 ⟨k_laws_eqCodeS, List.forall_mem_cons.2 ⟨k_laws_eqKind, List.forall_mem_cons.2 ⟨k_laws_eqKindS, List.forall_mem_cons.2 ⟨k_laws_eqProg, List.forall_mem_cons.2 ⟨k_laws_FnExactKindOf, (by simp)⟩⟩⟩⟩⟩⟩⟩⟩⟩⟩⟩⟩⟩⟩⟩⟩⟩⟩⟩⟩⟩⟩⟩⟩⟩⟩⟩⟩⟩⟩⟩⟩⟩⟩⟩⟩⟩⟩
theorem comps : AM.Comps Try.prog AM.Γ := AM.comps_of all_codes
theorem own : ownKnob Try.prog.godebug = none := by kernel_rfl
theorem mixed : Try.prog.follows .mixedOrders = true := by kernel_rfl
theorem kids : Kids Try.prog (· < Try.prog.types.size) := kids_rows (by kernel_rfl) (by kernel_rfl)
theorem full : ∀ t e, t < Try.prog.types.size → Try.prog.underlying t = some (.slice e) → 0 < Try.prog.cellsOf e := slices_full_of Try.prog (by kernel_rfl)
theorem one_le {H : Type} (d : DataW H) : 1 ≤ Rows.uptoBulk d := by
  cases d with
  | lit l => cases l <;> simp [Rows.uptoBulk]
  | nil => simp [Rows.uptoBulk]
  | ptr d => simp [Rows.uptoBulk]
  | slice elems spare => simp [Rows.uptoBulk]
  | agg parts => simp [Rows.uptoBulk]
  | iface t d => simp [Rows.uptoBulk]
  | map entries => simp [Rows.uptoBulk]
  | held h => simp [Rows.uptoBulk]
theorem bulk (H : Type) : AM.Bulk (H := H) Rows.uptoBulk Rows.uptoBulkAll := ⟨fun _ => by simp [Rows.uptoBulk], fun _ _ => by simp [Rows.uptoBulk], fun _ => by simp [Rows.uptoBulk], one_le, by simp [Rows.uptoBulkAll], fun _ _ => by simp [Rows.uptoBulkAll]⟩
theorem tys : Try.f13.params.toList.map (AM.tyOf Try.prog 20) = [(.struct [(.slice (.struct [.str, (.int .i64), (.slice (.struct [(.int .i64), (.int .i64), .str, .str])), (.slice (.struct [.str, .str])), (.slice (.struct [.str, (.int .i64), (.slice .str), .str, (.int .i64), (.slice (.struct [(.int .i64), (.int .i64)]))]))]))]), .str].map some := by kernel_rfl
theorem lifted (os : Os) (started : os.Started) (H : Type) (enc : TypeId × Value → H) (F : Stop.Interp) :
    ReturnsInHanded {} Try.checked os 13 .any ((Rows.OpenSpec.upto Rows.fnExactKindOfSpec).pre6 enc Try.prog Try.f13 Rows.fnExactKindOfUptoRow.domain false) (((Rows.OpenSpec.upto Rows.fnExactKindOfSpec).at F).post enc Try.prog Try.f13 false true false false) := by
  refine returnsInHanded_of_cond (C := Try.checked) (s := Rows.OpenSpec.upto Rows.fnExactKindOfSpec) (k := Rows.uptoSmall) rfl own started (by kernel_rfl) Try.func13
    (OpenSpec.witness (enc := enc) (C := Try.checked) (s := Rows.OpenSpec.upto Rows.fnExactKindOfSpec) (k := Rows.uptoSmall) rfl false ⟨#[], #[.agg #[.slice none 0 0], .string ByteArray.empty], []⟩ 30 (by kernel_rfl) (by kernel_rfl) (by kernel_rfl)
      (x := ([.agg [.nil], .lit (.string [])], [], [])) (by kernel_rfl) rfl (by kernel_rfl)) ?_
  intro W base args ds gs before hval hW _ hk _
  have hfn : ∀ ds : List (DataW H), ds.length = 2 → Rows.fnExactKindOfSpec.fn H ds = { results := [.lit (.bool true)], args := ds } := by
    intro ds hd
    match ds, hd with
    | [d0, d1], _ => rfl
  exact AM.law_contract comps mixed AM.laws_FnExactKindOf_law (bulk H) tys rfl hfn (tb := 4) (by kernel_rfl) (by kernel_rfl) kids full (of_decide_eq_true (by kernel_rfl)) base args ds gs before hval hW (of_decide_eq_true hk)
theorem over : Rows.fnExactKindOfUptoRow.holds Try.pinned (Rows.OpenSpec.upto Rows.fnExactKindOfSpec) :=
  OpenClaim.holds_of_cond 13 Try.f13 rfl rfl rfl rfl rfl rfl rfl ⟨rfl, rfl, rfl, rfl, rfl⟩ rfl rfl rfl rfl rfl (by kernel_rfl) Try.func13 (by kernel_rfl)
    (of_decide_eq_true (by kernel_rfl)) (by unfold Func.isWrapper; first | (rw [if_pos (by decide +kernel)]; kernel_rfl) | (rw [if_neg (by decide +kernel)]; exact ⟨rfl, rfl⟩))
    (fun os started H enc _ F => lifted os started H enc F)
theorem proved : Rows.FnExactKindOfUptoSaid := over
#print axioms proved
end Go.Proofs.Ytokgcleggkmmoaa.LExactKindOf
