/- FnExactRead answers true, whatever the input of bulk at most 1048576: the code is what the translation says, the machine AM runs it, and the law holds of what it runs. -/
import Derived.Test.YtokgcleggkmmoaaRows
import Derived.Test.YtokgcleggkmmoaaLExactReadP
import Derived.WalkKit
import Derived.ProofKit
import Derived.OpenShut
import Derived.JoinedCond
import Derived.ReadAgain
namespace Go.Proofs.Ytokgcleggkmmoaa.LExactRead
open Go.ChangeShapes Go.WideShapes Go.ChangeAt Go.RowKit
set_option linter.unusedVariables false
set_option maxRecDepth 100000
theorem k_laws_szValS : ∃ fn H L, Try.prog.funcs[AM.n_laws_szValS]? = some fn ∧ AM.compF Try.prog H L fn = some AM.a_laws_szValS := ⟨Try.f113, { lend := [], mvs := [], lst := [], pure := [] }, [], Try.func113, by kernel_rfl⟩
theorem k_laws_szObject : ∃ fn H L, Try.prog.funcs[AM.n_laws_szObject]? = some fn ∧ AM.compF Try.prog H L fn = some AM.a_laws_szObject := ⟨Try.f101, { lend := [], mvs := [], lst := [], pure := [] }, [], Try.func101, by kernel_rfl⟩
theorem k_laws_szObjectS : ∃ fn H L, Try.prog.funcs[AM.n_laws_szObjectS]? = some fn ∧ AM.compF Try.prog H L fn = some AM.a_laws_szObjectS := ⟨Try.f67, { lend := [], mvs := [], lst := [], pure := [] }, [[0, 1, 5]], Try.func67, by kernel_rfl⟩
theorem k_laws_szLockS : ∃ fn H L, Try.prog.funcs[AM.n_laws_szLockS]? = some fn ∧ AM.compF Try.prog H L fn = some AM.a_laws_szLockS := ⟨Try.f68, { lend := [], mvs := [], lst := [], pure := [] }, [], Try.func68, by kernel_rfl⟩
theorem k_laws_szMemory : ∃ fn H L, Try.prog.funcs[AM.n_laws_szMemory]? = some fn ∧ AM.compF Try.prog H L fn = some AM.a_laws_szMemory := ⟨Try.f29, { lend := [], mvs := [], lst := [], pure := [] }, [], Try.func29, by kernel_rfl⟩
theorem k_laws_toVal : ∃ fn H L, Try.prog.funcs[AM.n_laws_toVal]? = some fn ∧ AM.compF Try.prog H L fn = some AM.a_laws_toVal := ⟨Try.f38, { lend := [], mvs := [], lst := [], pure := [] }, [], Try.func38, by kernel_rfl⟩
theorem k_laws_toValS : ∃ fn H L, Try.prog.funcs[AM.n_laws_toValS]? = some fn ∧ AM.compF Try.prog H L fn = some AM.a_laws_toValS := ⟨Try.f114, { lend := [], mvs := [], lst := [], pure := [] }, [[0, 3, 4]], Try.func114, by kernel_rfl⟩
theorem k_laws_toObject : ∃ fn H L, Try.prog.funcs[AM.n_laws_toObject]? = some fn ∧ AM.compF Try.prog H L fn = some AM.a_laws_toObject := ⟨Try.f102, { lend := [], mvs := [], lst := [], pure := [] }, [], Try.func102, by kernel_rfl⟩
theorem k_laws_toObjectS : ∃ fn H L, Try.prog.funcs[AM.n_laws_toObjectS]? = some fn ∧ AM.compF Try.prog H L fn = some AM.a_laws_toObjectS := ⟨Try.f70, { lend := [], mvs := [], lst := [], pure := [] }, [[0, 3, 4]], Try.func70, by kernel_rfl⟩
theorem k_laws_toLock : ∃ fn H L, Try.prog.funcs[AM.n_laws_toLock]? = some fn ∧ AM.compF Try.prog H L fn = some AM.a_laws_toLock := ⟨Try.f103, { lend := [], mvs := [], lst := [], pure := [] }, [], Try.func103, by kernel_rfl⟩
theorem k_laws_toLockS : ∃ fn H L, Try.prog.funcs[AM.n_laws_toLockS]? = some fn ∧ AM.compF Try.prog H L fn = some AM.a_laws_toLockS := ⟨Try.f71, { lend := [], mvs := [], lst := [], pure := [] }, [[0, 3, 4]], Try.func71, by kernel_rfl⟩
theorem k_laws_toMemory : ∃ fn H L, Try.prog.funcs[AM.n_laws_toMemory]? = some fn ∧ AM.compF Try.prog H L fn = some AM.a_laws_toMemory := ⟨Try.f31, { lend := [], mvs := [], lst := [], pure := [] }, [], Try.func31, by kernel_rfl⟩
theorem k_spec_l15At : ∃ fn H L, Try.prog.funcs[AM.n_spec_l15At]? = some fn ∧ AM.compF Try.prog H L fn = some AM.a_spec_l15At := ⟨Try.f69, { lend := [], mvs := [], lst := [], pure := [] }, [[1, 2, 5]], Try.func69, by kernel_rfl⟩
theorem k_spec_l1In : ∃ fn H L, Try.prog.funcs[AM.n_spec_l1In]? = some fn ∧ AM.compF Try.prog H L fn = some AM.a_spec_l1In := ⟨Try.f61, { lend := [], mvs := [], lst := [], pure := [] }, [], Try.func61, by kernel_rfl⟩
theorem k_spec_Read : ∃ fn H L, Try.prog.funcs[AM.n_spec_Read]? = some fn ∧ AM.compF Try.prog H L fn = some AM.a_spec_Read := ⟨Try.f30, { lend := [], mvs := [], lst := [], pure := [] }, [], Try.func30, by kernel_rfl⟩
theorem k_impl_objectAt : ∃ fn H L, Try.prog.funcs[AM.n_impl_objectAt]? = some fn ∧ AM.compF Try.prog H L fn = some AM.a_impl_objectAt := ⟨Try.f72, { lend := [], mvs := [], lst := [], pure := [] }, [[1, 8, 9, 10]], Try.func72, by kernel_rfl⟩
theorem k_impl_within : ∃ fn H L, Try.prog.funcs[AM.n_impl_within]? = some fn ∧ AM.compF Try.prog H L fn = some AM.a_impl_within := ⟨Try.f63, { lend := [], mvs := [], lst := [], pure := [] }, [], Try.func63, by kernel_rfl⟩
theorem k_impl_Read : ∃ fn H L, Try.prog.funcs[AM.n_impl_Read]? = some fn ∧ AM.compF Try.prog H L fn = some AM.a_impl_Read := ⟨Try.f32, { lend := [], mvs := [], lst := [], pure := [] }, [], Try.func32, by kernel_rfl⟩
theorem k_laws_eqVal : ∃ fn H L, Try.prog.funcs[AM.n_laws_eqVal]? = some fn ∧ AM.compF Try.prog H L fn = some AM.a_laws_eqVal := ⟨Try.f33, { lend := [], mvs := [], lst := [], pure := [] }, [], Try.func33, by kernel_rfl⟩
theorem k_laws_eqValS : ∃ fn H L, Try.prog.funcs[AM.n_laws_eqValS]? = some fn ∧ AM.compF Try.prog H L fn = some AM.a_laws_eqValS := ⟨Try.f85, { lend := [], mvs := [], lst := [], pure := [] }, [[0, 1, 5]], Try.func85, by kernel_rfl⟩
theorem k_laws_eqObject : ∃ fn H L, Try.prog.funcs[AM.n_laws_eqObject]? = some fn ∧ AM.compF Try.prog H L fn = some AM.a_laws_eqObject := ⟨Try.f45, { lend := [], mvs := [], lst := [], pure := [] }, [], Try.func45, by kernel_rfl⟩
theorem k_laws_eqObjectS : ∃ fn H L, Try.prog.funcs[AM.n_laws_eqObjectS]? = some fn ∧ AM.compF Try.prog H L fn = some AM.a_laws_eqObjectS := ⟨Try.f73, { lend := [], mvs := [], lst := [], pure := [] }, [[0, 1, 5]], Try.func73, by kernel_rfl⟩
theorem k_laws_eqLock : ∃ fn H L, Try.prog.funcs[AM.n_laws_eqLock]? = some fn ∧ AM.compF Try.prog H L fn = some AM.a_laws_eqLock := ⟨Try.f104, { lend := [], mvs := [], lst := [], pure := [] }, [], Try.func104, by kernel_rfl⟩
theorem k_laws_eqLockS : ∃ fn H L, Try.prog.funcs[AM.n_laws_eqLockS]? = some fn ∧ AM.compF Try.prog H L fn = some AM.a_laws_eqLockS := ⟨Try.f74, { lend := [], mvs := [], lst := [], pure := [] }, [[0, 1, 5]], Try.func74, by kernel_rfl⟩
theorem k_laws_eqMemory : ∃ fn H L, Try.prog.funcs[AM.n_laws_eqMemory]? = some fn ∧ AM.compF Try.prog H L fn = some AM.a_laws_eqMemory := ⟨Try.f34, { lend := [], mvs := [], lst := [], pure := [] }, [], Try.func34, by kernel_rfl⟩
theorem k_laws_FnExactRead : ∃ fn H L, Try.prog.funcs[AM.n_laws_FnExactRead]? = some fn ∧ AM.compF Try.prog H L fn = some AM.a_laws_FnExactRead := ⟨Try.f8, { lend := [], mvs := [], lst := [], pure := [] }, [], Try.func8, by kernel_rfl⟩
theorem all_codes : ∀ x ∈ AM.codes, ∃ fn H L, Try.prog.funcs[x.1]? = some fn ∧ AM.compF Try.prog H L fn = some x.2 := by
  unfold AM.codes
  exact List.forall_mem_cons.2 ⟨k_laws_szValS, List.forall_mem_cons.2 ⟨k_laws_szObject, List.forall_mem_cons.2 ⟨k_laws_szObjectS, List.forall_mem_cons.2 ⟨k_laws_szLockS, List.forall_mem_cons.2 ⟨k_laws_szMemory, List.forall_mem_cons.2 ⟨k_laws_toVal, List.forall_mem_cons.2 ⟨k_laws_toValS, List.forall_mem_cons.2 ⟨k_laws_toObject, List.forall_mem_cons.2 ⟨k_laws_toObjectS, List.forall_mem_cons.2 ⟨k_laws_toLock, List.forall_mem_cons.2 ⟨k_laws_toLockS, List.forall_mem_cons.2 ⟨k_laws_toMemory, List.forall_mem_cons.2 ⟨k_spec_l15At, List.forall_mem_cons.2 ⟨k_spec_l1In, List.forall_mem_cons.2 ⟨k_spec_Read, List.forall_mem_cons.2 ⟨k_impl_objectAt, List.forall_mem_cons.2 ⟨k_impl_within, List.forall_mem_cons.2 ⟨k_impl_Read, List.forall_mem_cons.2 ⟨k_laws_eqVal, List.forall_mem_cons.2 ⟨k_laws_eqValS, List.forall_mem_cons.2 ⟨k_laws_eqObject, List.forall_mem_cons.2 ⟨k_laws_eqObjectS, List.forall_mem_cons.2 ⟨k_laws_eqLock, List.forall_mem_cons.2 ⟨k_laws_eqLockS, List.forall_mem_cons.2 ⟨k_laws_eqMemory, List.forall_mem_cons.2 ⟨k_laws_FnExactRead, (by simp)⟩⟩⟩⟩⟩⟩⟩⟩⟩⟩⟩⟩⟩⟩⟩⟩⟩⟩⟩⟩⟩⟩⟩⟩⟩⟩
theorem comps : AM.Comps Try.prog AM.Γ := AM.comps_of all_codes
theorem own : ownKnob Try.prog.godebug = none := by kernel_rfl
theorem mixed : Try.prog.follows .mixedOrders = true := by kernel_rfl
theorem kids : Kids Try.prog (· < Try.prog.types.size) := kids_rows (by kernel_rfl) (by kernel_rfl)
theorem full : ∀ t e, t < Try.prog.types.size → Try.prog.underlying t = some (.slice e) → 0 < Try.prog.cellsOf e := slices_full_of Try.prog (by kernel_rfl)
theorem one_le {H : Type} (d : DataW H) : 1 ≤ Rows.uptoBulk d := by
  cases d with
  | lit l => cases l <;> simp [Rows.uptoBulk]
  | nil => simp [Rows.uptoBulk]
  | ptr d => simp [Rows.uptoBulk]
  | slice elems spare => simp [Rows.uptoBulk]
  | agg parts => simp [Rows.uptoBulk]
  | iface t d => simp [Rows.uptoBulk]
  | map entries => simp [Rows.uptoBulk]
  | held h => simp [Rows.uptoBulk]
theorem bulk (H : Type) : AM.Bulk (H := H) Rows.uptoBulk Rows.uptoBulkAll := ⟨fun _ => by simp [Rows.uptoBulk], fun _ _ => by simp [Rows.uptoBulk], fun _ => by simp [Rows.uptoBulk], one_le, by simp [Rows.uptoBulkAll], fun _ _ => by simp [Rows.uptoBulkAll]⟩
theorem tys : Try.f8.params.toList.map (AM.tyOf Try.prog 20) = [(.struct [(.slice (.struct [(.int .i64), (.int .i64), (.slice (.struct [.bool, (.int .i64)]))])), (.slice (.struct [(.int .i64), (.int .i64), (.int .i64)]))]), (.int .i64), (.int .i64)].map some := by kernel_rfl
theorem lifted (os : Os) (started : os.Started) (H : Type) (enc : TypeId × Value → H) (F : Stop.Interp) :
    ReturnsInHanded {} Try.checked os 8 .any ((Rows.OpenSpec.upto Rows.fnExactReadSpec).pre6 enc Try.prog Try.f8 Rows.fnExactReadUptoRow.domain false) (((Rows.OpenSpec.upto Rows.fnExactReadSpec).at F).post enc Try.prog Try.f8 false true false false) := by
  refine returnsInHanded_of_cond (C := Try.checked) (s := Rows.OpenSpec.upto Rows.fnExactReadSpec) (k := Rows.uptoSmall) rfl own started (by kernel_rfl) Try.func8
    (OpenSpec.witness (enc := enc) (C := Try.checked) (s := Rows.OpenSpec.upto Rows.fnExactReadSpec) (k := Rows.uptoSmall) rfl false ⟨#[], #[.agg #[.slice none 0 0, .slice none 0 0], .int .i64 0, .int .i64 0], []⟩ 30 (by kernel_rfl) (by kernel_rfl) (by kernel_rfl)
      (x := ([.agg [.nil, .nil], .lit (.int .i64 0), .lit (.int .i64 0)], [], [])) (by kernel_rfl) rfl (by kernel_rfl)) ?_
  intro W base args ds gs before hval hW _ hk _
  have hfn : ∀ ds : List (DataW H), ds.length = 3 → Rows.fnExactReadSpec.fn H ds = { results := [.lit (.bool true)], args := ds } := by
    intro ds hd
    match ds, hd with
    | [d0, d1, d2], _ => rfl
  exact AM.law_contract comps mixed AM.laws_FnExactRead_law (bulk H) tys rfl hfn (tb := 4) (by kernel_rfl) (by kernel_rfl) kids full (of_decide_eq_true (by kernel_rfl)) base args ds gs before hval hW (of_decide_eq_true hk)
theorem over : Rows.fnExactReadUptoRow.holds Try.pinned (Rows.OpenSpec.upto Rows.fnExactReadSpec) :=
  OpenClaim.holds_of_cond 8 Try.f8 rfl rfl rfl rfl rfl rfl rfl ⟨rfl, rfl, rfl, rfl, rfl⟩ rfl rfl rfl rfl rfl (by kernel_rfl) Try.func8 (by kernel_rfl)
    (of_decide_eq_true (by kernel_rfl)) (by unfold Func.isWrapper; first | (rw [if_pos (by decide +kernel)]; kernel_rfl) | (rw [if_neg (by decide +kernel)]; exact ⟨rfl, rfl⟩))
    (fun os started H enc _ F => lifted os started H enc F)
theorem proved : Rows.FnExactReadUptoSaid := over
#print axioms proved
end Go.Proofs.Ytokgcleggkmmoaa.LExactRead
