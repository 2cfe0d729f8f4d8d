/- FnExactMemoryOk answers true, whatever the input of bulk at most 1048576: the code is what the translation says, the machine AM runs it, and the law holds of what it runs. -/
import Derived.Test.YtplemhkpafmhgaaRows
import Derived.Test.YtplemhkpafmhgaaLExactMemoryOkP
import Derived.WalkKit
import Derived.ProofKit
import Derived.OpenShut
import Derived.JoinedCond
import Derived.ReadAgain
namespace Go.Proofs.Ytplemhkpafmhgaa.LExactMemoryOk
open Go.ChangeShapes Go.WideShapes Go.ChangeAt Go.RowKit
set_option linter.unusedVariables false
set_option maxRecDepth 100000
theorem k_laws_szConst : ∃ fn H L, Try.prog.funcs[AM.n_laws_szConst]? = some fn ∧ AM.compF Try.prog H L fn = some AM.a_laws_szConst := ⟨Try.f125, { lend := [], mvs := [], lst := [], pure := [] }, [], Try.func125, by kernel_rfl⟩
theorem k_laws_szConstS : ∃ fn H L, Try.prog.funcs[AM.n_laws_szConstS]? = some fn ∧ AM.compF Try.prog H L fn = some AM.a_laws_szConstS := ⟨Try.f110, { lend := [], mvs := [], lst := [], pure := [] }, [[0, 1, 5]], Try.func110, by kernel_rfl⟩
theorem k_laws_szField : ∃ fn H L, Try.prog.funcs[AM.n_laws_szField]? = some fn ∧ AM.compF Try.prog H L fn = some AM.a_laws_szField := ⟨Try.f126, { lend := [], mvs := [], lst := [], pure := [] }, [], Try.func126, by kernel_rfl⟩
theorem k_laws_szFieldS : ∃ fn H L, Try.prog.funcs[AM.n_laws_szFieldS]? = some fn ∧ AM.compF Try.prog H L fn = some AM.a_laws_szFieldS := ⟨Try.f111, { lend := [], mvs := [], lst := [], pure := [] }, [[0, 1, 5]], Try.func111, by kernel_rfl⟩
theorem k_laws_szStringS : ∃ fn H L, Try.prog.funcs[AM.n_laws_szStringS]? = some fn ∧ AM.compF Try.prog H L fn = some AM.a_laws_szStringS := ⟨Try.f136, { lend := [], mvs := [], lst := [], pure := [] }, [[0, 1, 5]], Try.func136, by kernel_rfl⟩
theorem k_laws_szInsS : ∃ fn H L, Try.prog.funcs[AM.n_laws_szInsS]? = some fn ∧ AM.compF Try.prog H L fn = some AM.a_laws_szInsS := ⟨Try.f137, { lend := [], mvs := [], lst := [], pure := [] }, [], Try.func137, by kernel_rfl⟩
theorem k_laws_szCode : ∃ fn H L, Try.prog.funcs[AM.n_laws_szCode]? = some fn ∧ AM.compF Try.prog H L fn = some AM.a_laws_szCode := ⟨Try.f127, { lend := [], mvs := [], lst := [], pure := [] }, [], Try.func127, by kernel_rfl⟩
theorem k_laws_szCodeS : ∃ fn H L, Try.prog.funcs[AM.n_laws_szCodeS]? = some fn ∧ AM.compF Try.prog H L fn = some AM.a_laws_szCodeS := ⟨Try.f112, { lend := [], mvs := [], lst := [], pure := [] }, [[0, 1, 5]], Try.func112, by kernel_rfl⟩
theorem k_laws_szKind : ∃ fn H L, Try.prog.funcs[AM.n_laws_szKind]? = some fn ∧ AM.compF Try.prog H L fn = some AM.a_laws_szKind := ⟨Try.f92, { lend := [], mvs := [], lst := [], pure := [] }, [], Try.func92, by kernel_rfl⟩
theorem k_laws_szKindS : ∃ fn H L, Try.prog.funcs[AM.n_laws_szKindS]? = some fn ∧ AM.compF Try.prog H L fn = some AM.a_laws_szKindS := ⟨Try.f59, { lend := [], mvs := [], lst := [], pure := [] }, [[0, 1, 5]], Try.func59, by kernel_rfl⟩
theorem k_laws_szProg : ∃ fn H L, Try.prog.funcs[AM.n_laws_szProg]? = some fn ∧ AM.compF Try.prog H L fn = some AM.a_laws_szProg := ⟨Try.f15, { lend := [], mvs := [], lst := [], pure := [] }, [], Try.func15, by kernel_rfl⟩
theorem k_laws_szValS : ∃ fn H L, Try.prog.funcs[AM.n_laws_szValS]? = some fn ∧ AM.compF Try.prog H L fn = some AM.a_laws_szValS := ⟨Try.f121, { lend := [], mvs := [], lst := [], pure := [] }, [], Try.func121, by kernel_rfl⟩
theorem k_laws_szObject : ∃ fn H L, Try.prog.funcs[AM.n_laws_szObject]? = some fn ∧ AM.compF Try.prog H L fn = some AM.a_laws_szObject := ⟨Try.f105, { lend := [], mvs := [], lst := [], pure := [] }, [], Try.func105, by kernel_rfl⟩
theorem k_laws_szObjectS : ∃ fn H L, Try.prog.funcs[AM.n_laws_szObjectS]? = some fn ∧ AM.compF Try.prog H L fn = some AM.a_laws_szObjectS := ⟨Try.f79, { lend := [], mvs := [], lst := [], pure := [] }, [[0, 1, 5]], Try.func79, by kernel_rfl⟩
theorem k_laws_szLockS : ∃ fn H L, Try.prog.funcs[AM.n_laws_szLockS]? = some fn ∧ AM.compF Try.prog H L fn = some AM.a_laws_szLockS := ⟨Try.f80, { lend := [], mvs := [], lst := [], pure := [] }, [], Try.func80, by kernel_rfl⟩
theorem k_laws_szMemory : ∃ fn H L, Try.prog.funcs[AM.n_laws_szMemory]? = some fn ∧ AM.compF Try.prog H L fn = some AM.a_laws_szMemory := ⟨Try.f50, { lend := [], mvs := [], lst := [], pure := [] }, [], Try.func50, by kernel_rfl⟩
theorem k_laws_toConst : ∃ fn H L, Try.prog.funcs[AM.n_laws_toConst]? = some fn ∧ AM.compF Try.prog H L fn = some AM.a_laws_toConst := ⟨Try.f128, { lend := [], mvs := [], lst := [], pure := [] }, [], Try.func128, by kernel_rfl⟩
theorem k_laws_toConstS : ∃ fn H L, Try.prog.funcs[AM.n_laws_toConstS]? = some fn ∧ AM.compF Try.prog H L fn = some AM.a_laws_toConstS := ⟨Try.f113, { lend := [], mvs := [], lst := [], pure := [] }, [[0, 3, 4]], Try.func113, by kernel_rfl⟩
theorem k_laws_toField : ∃ fn H L, Try.prog.funcs[AM.n_laws_toField]? = some fn ∧ AM.compF Try.prog H L fn = some AM.a_laws_toField := ⟨Try.f129, { lend := [], mvs := [], lst := [], pure := [] }, [], Try.func129, by kernel_rfl⟩
theorem k_laws_toFieldS : ∃ fn H L, Try.prog.funcs[AM.n_laws_toFieldS]? = some fn ∧ AM.compF Try.prog H L fn = some AM.a_laws_toFieldS := ⟨Try.f114, { lend := [], mvs := [], lst := [], pure := [] }, [[0, 3, 4]], Try.func114, by kernel_rfl⟩
theorem k_laws_toStringS : ∃ fn H L, Try.prog.funcs[AM.n_laws_toStringS]? = some fn ∧ AM.compF Try.prog H L fn = some AM.a_laws_toStringS := ⟨Try.f138, { lend := [], mvs := [], lst := [], pure := [] }, [[0, 3, 4]], Try.func138, by kernel_rfl⟩
theorem k_laws_toIns : ∃ fn H L, Try.prog.funcs[AM.n_laws_toIns]? = some fn ∧ AM.compF Try.prog H L fn = some AM.a_laws_toIns := ⟨Try.f142, { lend := [], mvs := [], lst := [], pure := [] }, [], Try.func142, by kernel_rfl⟩
theorem k_laws_toInsS : ∃ fn H L, Try.prog.funcs[AM.n_laws_toInsS]? = some fn ∧ AM.compF Try.prog H L fn = some AM.a_laws_toInsS := ⟨Try.f139, { lend := [], mvs := [], lst := [], pure := [] }, [[0, 3, 4]], Try.func139, by kernel_rfl⟩
theorem k_laws_toCode : ∃ fn H L, Try.prog.funcs[AM.n_laws_toCode]? = some fn ∧ AM.compF Try.prog H L fn = some AM.a_laws_toCode := ⟨Try.f130, { lend := [], mvs := [], lst := [], pure := [] }, [], Try.func130, by kernel_rfl⟩
theorem k_laws_toCodeS : ∃ fn H L, Try.prog.funcs[AM.n_laws_toCodeS]? = some fn ∧ AM.compF Try.prog H L fn = some AM.a_laws_toCodeS := ⟨Try.f115, { lend := [], mvs := [], lst := [], pure := [] }, [[0, 3, 4]], Try.func115, by kernel_rfl⟩
theorem k_laws_toKind : ∃ fn H L, Try.prog.funcs[AM.n_laws_toKind]? = some fn ∧ AM.compF Try.prog H L fn = some AM.a_laws_toKind := ⟨Try.f93, { lend := [], mvs := [], lst := [], pure := [] }, [], Try.func93, by kernel_rfl⟩
theorem k_laws_toKindS : ∃ fn H L, Try.prog.funcs[AM.n_laws_toKindS]? = some fn ∧ AM.compF Try.prog H L fn = some AM.a_laws_toKindS := ⟨Try.f61, { lend := [], mvs := [], lst := [], pure := [] }, [[0, 3, 4]], Try.func61, by kernel_rfl⟩
theorem k_laws_toProg : ∃ fn H L, Try.prog.funcs[AM.n_laws_toProg]? = some fn ∧ AM.compF Try.prog H L fn = some AM.a_laws_toProg := ⟨Try.f17, { lend := [], mvs := [], lst := [], pure := [] }, [], Try.func17, by kernel_rfl⟩
theorem k_laws_toVal : ∃ fn H L, Try.prog.funcs[AM.n_laws_toVal]? = some fn ∧ AM.compF Try.prog H L fn = some AM.a_laws_toVal := ⟨Try.f135, { lend := [], mvs := [], lst := [], pure := [] }, [], Try.func135, by kernel_rfl⟩
theorem k_laws_toValS : ∃ fn H L, Try.prog.funcs[AM.n_laws_toValS]? = some fn ∧ AM.compF Try.prog H L fn = some AM.a_laws_toValS := ⟨Try.f123, { lend := [], mvs := [], lst := [], pure := [] }, [[0, 3, 4]], Try.func123, by kernel_rfl⟩
theorem k_laws_toObject : ∃ fn H L, Try.prog.funcs[AM.n_laws_toObject]? = some fn ∧ AM.compF Try.prog H L fn = some AM.a_laws_toObject := ⟨Try.f106, { lend := [], mvs := [], lst := [], pure := [] }, [], Try.func106, by kernel_rfl⟩
theorem k_laws_toObjectS : ∃ fn H L, Try.prog.funcs[AM.n_laws_toObjectS]? = some fn ∧ AM.compF Try.prog H L fn = some AM.a_laws_toObjectS := ⟨Try.f83, { lend := [], mvs := [], lst := [], pure := [] }, [[0, 3, 4]], Try.func83, by kernel_rfl⟩
theorem k_laws_toLock : ∃ fn H L, Try.prog.funcs[AM.n_laws_toLock]? = some fn ∧ AM.compF Try.prog H L fn = some AM.a_laws_toLock := ⟨Try.f107, { lend := [], mvs := [], lst := [], pure := [] }, [], Try.func107, by kernel_rfl⟩
theorem k_laws_toLockS : ∃ fn H L, Try.prog.funcs[AM.n_laws_toLockS]? = some fn ∧ AM.compF Try.prog H L fn = some AM.a_laws_toLockS := ⟨Try.f84, { lend := [], mvs := [], lst := [], pure := [] }, [[0, 3, 4]], Try.func84, by kernel_rfl⟩
theorem k_laws_toMemory : ∃ fn H L, Try.prog.funcs[AM.n_laws_toMemory]? = some fn ∧ AM.compF Try.prog H L fn = some AM.a_laws_toMemory := ⟨Try.f52, { lend := [], mvs := [], lst := [], pure := [] }, [], Try.func52, by kernel_rfl⟩
theorem k_spec_l1In : ∃ fn H L, Try.prog.funcs[AM.n_spec_l1In]? = some fn ∧ AM.compF Try.prog H L fn = some AM.a_spec_l1In := ⟨Try.f60, { lend := [], mvs := [], lst := [], pure := [] }, [], Try.func60, by kernel_rfl⟩
theorem k_spec_l1Word : ∃ fn H L, Try.prog.funcs[AM.n_spec_l1Word]? = some fn ∧ AM.compF Try.prog H L fn = some AM.a_spec_l1Word := ⟨Try.f134, { lend := [], mvs := [], lst := [], pure := [] }, [], Try.func134, by kernel_rfl⟩
theorem k_spec_ValOk : ∃ fn H L, Try.prog.funcs[AM.n_spec_ValOk]? = some fn ∧ AM.compF Try.prog H L fn = some AM.a_spec_ValOk := ⟨Try.f122, { lend := [], mvs := [], lst := [], pure := [] }, [], Try.func122, by kernel_rfl⟩
theorem k_spec_l14Vals : ∃ fn H L, Try.prog.funcs[AM.n_spec_l14Vals]? = some fn ∧ AM.compF Try.prog H L fn = some AM.a_spec_l14Vals := ⟨Try.f101, { lend := [], mvs := [], lst := [], pure := [] }, [[0, 3]], Try.func101, by kernel_rfl⟩
theorem k_spec_l15Object : ∃ fn H L, Try.prog.funcs[AM.n_spec_l15Object]? = some fn ∧ AM.compF Try.prog H L fn = some AM.a_spec_l15Object := ⟨Try.f81, { lend := [], mvs := [], lst := [], pure := [] }, [[2, 3, 5]], Try.func81, by kernel_rfl⟩
theorem k_spec_l15At : ∃ fn H L, Try.prog.funcs[AM.n_spec_l15At]? = some fn ∧ AM.compF Try.prog H L fn = some AM.a_spec_l15At := ⟨Try.f82, { lend := [], mvs := [], lst := [], pure := [] }, [[1, 2, 5]], Try.func82, by kernel_rfl⟩
theorem k_spec_MemoryOk : ∃ fn H L, Try.prog.funcs[AM.n_spec_MemoryOk]? = some fn ∧ AM.compF Try.prog H L fn = some AM.a_spec_MemoryOk := ⟨Try.f51, { lend := [], mvs := [], lst := [], pure := [] }, [[2, 3, 5], [3, 6]], Try.func51, by kernel_rfl⟩
theorem k_impl_within : ∃ fn H L, Try.prog.funcs[AM.n_impl_within]? = some fn ∧ AM.compF Try.prog H L fn = some AM.a_impl_within := ⟨Try.f62, { lend := [], mvs := [], lst := [], pure := [] }, [], Try.func62, by kernel_rfl⟩
theorem k_impl_isId : ∃ fn H L, Try.prog.funcs[AM.n_impl_isId]? = some fn ∧ AM.compF Try.prog H L fn = some AM.a_impl_isId := ⟨Try.f75, { lend := [], mvs := [], lst := [], pure := [] }, [], Try.func75, by kernel_rfl⟩
theorem k_impl_isWord : ∃ fn H L, Try.prog.funcs[AM.n_impl_isWord]? = some fn ∧ AM.compF Try.prog H L fn = some AM.a_impl_isWord := ⟨Try.f124, { lend := [], mvs := [], lst := [], pure := [] }, [], Try.func124, by kernel_rfl⟩
theorem k_impl_ValOk : ∃ fn H L, Try.prog.funcs[AM.n_impl_ValOk]? = some fn ∧ AM.compF Try.prog H L fn = some AM.a_impl_ValOk := ⟨Try.f103, { lend := [], mvs := [], lst := [], pure := [] }, [], Try.func103, by kernel_rfl⟩
theorem k_impl_valuesOk : ∃ fn H L, Try.prog.funcs[AM.n_impl_valuesOk]? = some fn ∧ AM.compF Try.prog H L fn = some AM.a_impl_valuesOk := ⟨Try.f85, { lend := [], mvs := [], lst := [], pure := [] }, [[2, 33, 34, 35]], Try.func85, by kernel_rfl⟩
theorem k_impl_objectAt : ∃ fn H L, Try.prog.funcs[AM.n_impl_objectAt]? = some fn ∧ AM.compF Try.prog H L fn = some AM.a_impl_objectAt := ⟨Try.f86, { lend := [], mvs := [], lst := [], pure := [] }, [[1, 8, 9, 10]], Try.func86, by kernel_rfl⟩
theorem k_impl_MemoryOk : ∃ fn H L, Try.prog.funcs[AM.n_impl_MemoryOk]? = some fn ∧ AM.compF Try.prog H L fn = some AM.a_impl_MemoryOk := ⟨Try.f53, { lend := [], mvs := [], lst := [], pure := [] }, [[2, 3, 10, 11, 12], [3, 48, 49, 50]], Try.func53, by kernel_rfl⟩
theorem k_laws_eqConst : ∃ fn H L, Try.prog.funcs[AM.n_laws_eqConst]? = some fn ∧ AM.compF Try.prog H L fn = some AM.a_laws_eqConst := ⟨Try.f131, { lend := [], mvs := [], lst := [], pure := [] }, [], Try.func131, by kernel_rfl⟩
theorem k_laws_eqConstS : ∃ fn H L, Try.prog.funcs[AM.n_laws_eqConstS]? = some fn ∧ AM.compF Try.prog H L fn = some AM.a_laws_eqConstS := ⟨Try.f116, { lend := [], mvs := [], lst := [], pure := [] }, [[0, 1, 5]], Try.func116, by kernel_rfl⟩
theorem k_laws_eqField : ∃ fn H L, Try.prog.funcs[AM.n_laws_eqField]? = some fn ∧ AM.compF Try.prog H L fn = some AM.a_laws_eqField := ⟨Try.f132, { lend := [], mvs := [], lst := [], pure := [] }, [], Try.func132, by kernel_rfl⟩
theorem k_laws_eqFieldS : ∃ fn H L, Try.prog.funcs[AM.n_laws_eqFieldS]? = some fn ∧ AM.compF Try.prog H L fn = some AM.a_laws_eqFieldS := ⟨Try.f117, { lend := [], mvs := [], lst := [], pure := [] }, [[0, 1, 5]], Try.func117, by kernel_rfl⟩
theorem k_laws_eqStringS : ∃ fn H L, Try.prog.funcs[AM.n_laws_eqStringS]? = some fn ∧ AM.compF Try.prog H L fn = some AM.a_laws_eqStringS := ⟨Try.f140, { lend := [], mvs := [], lst := [], pure := [] }, [[0, 1, 5]], Try.func140, by kernel_rfl⟩
theorem k_laws_eqIns : ∃ fn H L, Try.prog.funcs[AM.n_laws_eqIns]? = some fn ∧ AM.compF Try.prog H L fn = some AM.a_laws_eqIns := ⟨Try.f143, { lend := [], mvs := [], lst := [], pure := [] }, [], Try.func143, by kernel_rfl⟩
theorem k_laws_eqInsS : ∃ fn H L, Try.prog.funcs[AM.n_laws_eqInsS]? = some fn ∧ AM.compF Try.prog H L fn = some AM.a_laws_eqInsS := ⟨Try.f141, { lend := [], mvs := [], lst := [], pure := [] }, [[0, 1, 5]], Try.func141, by kernel_rfl⟩
theorem k_laws_eqCode : ∃ fn H L, Try.prog.funcs[AM.n_laws_eqCode]? = some fn ∧ AM.compF Try.prog H L fn = some AM.a_laws_eqCode := ⟨Try.f133, { lend := [], mvs := [], lst := [], pure := [] }, [], Try.func133, by kernel_rfl⟩
theorem k_laws_eqCodeS : ∃ fn H L, Try.prog.funcs[AM.n_laws_eqCodeS]? = some fn ∧ AM.compF Try.prog H L fn = some AM.a_laws_eqCodeS := ⟨Try.f118, { lend := [], mvs := [], lst := [], pure := [] }, [[0, 1, 5]], Try.func118, by kernel_rfl⟩
theorem k_laws_eqKind : ∃ fn H L, Try.prog.funcs[AM.n_laws_eqKind]? = some fn ∧ AM.compF Try.prog H L fn = some AM.a_laws_eqKind := ⟨Try.f94, { lend := [], mvs := [], lst := [], pure := [] }, [], Try.func94, by kernel_rfl⟩
theorem k_laws_eqKindS : ∃ fn H L, Try.prog.funcs[AM.n_laws_eqKindS]? = some fn ∧ AM.compF Try.prog H L fn = some AM.a_laws_eqKindS := ⟨Try.f63, { lend := [], mvs := [], lst := [], pure := [] }, [[0, 1, 5]], Try.func63, by kernel_rfl⟩
theorem k_laws_eqProg : ∃ fn H L, Try.prog.funcs[AM.n_laws_eqProg]? = some fn ∧ AM.compF Try.prog H L fn = some AM.a_laws_eqProg := ⟨Try.f20, { lend := [], mvs := [], lst := [], pure := [] }, [], Try.func20, by kernel_rfl⟩
theorem k_laws_eqVal : ∃ fn H L, Try.prog.funcs[AM.n_laws_eqVal]? = some fn ∧ AM.compF Try.prog H L fn = some AM.a_laws_eqVal := ⟨Try.f70, { lend := [], mvs := [], lst := [], pure := [] }, [], Try.func70, by kernel_rfl⟩
theorem k_laws_eqValS : ∃ fn H L, Try.prog.funcs[AM.n_laws_eqValS]? = some fn ∧ AM.compF Try.prog H L fn = some AM.a_laws_eqValS := ⟨Try.f41, { lend := [], mvs := [], lst := [], pure := [] }, [[0, 1, 5]], Try.func41, by kernel_rfl⟩
theorem k_laws_eqObject : ∃ fn H L, Try.prog.funcs[AM.n_laws_eqObject]? = some fn ∧ AM.compF Try.prog H L fn = some AM.a_laws_eqObject := ⟨Try.f108, { lend := [], mvs := [], lst := [], pure := [] }, [], Try.func108, by kernel_rfl⟩
theorem k_laws_eqObjectS : ∃ fn H L, Try.prog.funcs[AM.n_laws_eqObjectS]? = some fn ∧ AM.compF Try.prog H L fn = some AM.a_laws_eqObjectS := ⟨Try.f87, { lend := [], mvs := [], lst := [], pure := [] }, [[0, 1, 5]], Try.func87, by kernel_rfl⟩
theorem k_laws_eqLock : ∃ fn H L, Try.prog.funcs[AM.n_laws_eqLock]? = some fn ∧ AM.compF Try.prog H L fn = some AM.a_laws_eqLock := ⟨Try.f109, { lend := [], mvs := [], lst := [], pure := [] }, [], Try.func109, by kernel_rfl⟩
theorem k_laws_eqLockS : ∃ fn H L, Try.prog.funcs[AM.n_laws_eqLockS]? = some fn ∧ AM.compF Try.prog H L fn = some AM.a_laws_eqLockS := ⟨Try.f88, { lend := [], mvs := [], lst := [], pure := [] }, [[0, 1, 5]], Try.func88, by kernel_rfl⟩
theorem k_laws_eqMemory : ∃ fn H L, Try.prog.funcs[AM.n_laws_eqMemory]? = some fn ∧ AM.compF Try.prog H L fn = some AM.a_laws_eqMemory := ⟨Try.f54, { lend := [], mvs := [], lst := [], pure := [] }, [], Try.func54, by kernel_rfl⟩
theorem k_laws_FnExactMemoryOk : ∃ fn H L, Try.prog.funcs[AM.n_laws_FnExactMemoryOk]? = some fn ∧ AM.compF Try.prog H L fn = some AM.a_laws_FnExactMemoryOk := ⟨Try.f13, { lend := [], mvs := [], lst := [], pure := [] }, [], Try.func13, by kernel_rfl⟩
theorem all_codes : ∀ x ∈ AM.codes, ∃ fn H L, Try.prog.funcs[x.1]? = some fn ∧ AM.compF Try.prog H L fn = some x.2 := by
  unfold AM.codes
  exact List.forall_mem_cons.2 ⟨k_laws_szConst, List.forall_mem_cons.2 ⟨k_laws_szConstS, List.forall_mem_cons.2 ⟨k_laws_szField, List.forall_mem_cons.2 ⟨k_laws_szFieldS, List.forall_mem_cons.2 ⟨k_laws_szStringS, List.forall_mem_cons.2 ⟨k_laws_szInsS, List.forall_mem_cons.2 ⟨k_laws_szCode, List.forall_mem_cons.2 ⟨k_laws_szCodeS, List.forall_mem_cons.2 ⟨k_laws_szKind, List.forall_mem_cons.2 ⟨k_laws_szKindS, List.forall_mem_cons.2 ⟨k_laws_szProg, List.forall_mem_cons.2 ⟨k_laws_szValS, List.forall_mem_cons.2 ⟨k_laws_szObject, List.forall_mem_cons.2 ⟨k_laws_szObjectS, List.forall_mem_cons.2 ⟨k_laws_szLockS, List.forall_mem_cons.2 ⟨k_laws_szMemory, List.forall_mem_cons.2 ⟨k_laws_toConst, List.forall_mem_cons.2 ⟨k_laws_toConstS, List.forall_mem_cons.2 ⟨k_laws_toField, List.forall_mem_cons.2 ⟨k_laws_toFieldS, List.forall_mem_cons.2 ⟨k_laws_toStringS, List.forall_mem_cons.2 ⟨k_laws_toIns, List.forall_mem_cons.2 ⟨k_laws_toInsS, List.forall_mem_cons.2 ⟨k_laws_toCode, List.forall_mem_cons.2 ⟨k_laws_toCodeS, List.forall_mem_cons.2 ⟨k_laws_toKind, List.forall_mem_cons.2 ⟨k_laws_toKindS, List.forall_mem_cons.2 ⟨k_laws_toProg, List.forall_mem_cons.2 ⟨k_laws_toVal, List.forall_mem_cons.2 ⟨k_laws_toValS, List.forall_mem_cons.2 ⟨k_laws_toObject, List.forall_mem_cons.2 ⟨k_laws_toObjectS, List.forall_mem_cons.2 ⟨k_laws_toLock, List.forall_mem_cons.2 ⟨k_laws_toLockS, List.forall_mem_cons.2 ⟨k_laws_toMemory, List.forall_mem_cons.2 ⟨k_spec_l1In, List.forall_mem_cons.2 ⟨k_spec_l1Word, List.forall_mem_cons.2 ⟨k_spec_ValOk, List.forall_mem_cons.2 ⟨k_spec_l14Vals, List.forall_mem_cons.2 ⟨k_spec_l15Object, List.forall_mem_cons.2 ⟨k_spec_l15At, List.forall_mem_cons.2 ⟨k_spec_MemoryOk, List.forall_mem_cons.2 ⟨k_impl_within, List.forall_mem_cons.2 ⟨k_impl_isId, List.forall_mem_cons.2 ⟨k_impl_isWord, List.forall_mem_cons.2 ⟨k_impl_ValOk, List.forall_mem_cons.2 ⟨k_impl_valuesOk, List.forall_mem_cons.2 ⟨k_impl_objectAt, List.forall_mem_cons.2 ⟨k_impl_MemoryOk, List.forall_mem_cons.2 ⟨k_laws_eqConst, List.forall_mem_cons.2 ⟨k_laws_eqConstS, List.forall_mem_cons.2 ⟨k_laws_eqField, List.forall_mem_cons.2 ⟨k_laws_eqFieldS, List.forall_mem_cons.2 ⟨k_laws_eqStringS, List.forall_mem_cons.2 ⟨k_laws_eqIns, List.forall_mem_cons.2 ⟨k_laws_eqInsS, List.forall_mem_cons.2 ⟨k_laws_eqCode, List.forall_mem_cons.2 ⟨k_laws_eqCodeS, List.forall_mem_cons.2 ⟨k_laws_eqKind, List.forall_mem_cons.2 ⟨k_laws_eqKindS, List.forall_mem_cons.2 ⟨k_laws_eqProg, List.forall_mem_cons.2 ⟨k_laws_eqVal, List.forall_mem_cons.2 ⟨k_laws_eqValS, List.forall_mem_cons.2 ⟨k_laws_eqObject, List.forall_mem_cons.2 ⟨k_laws_eqObjectS, List.forall_mem_cons.2 ⟨k_laws_eqLock, List.forall_mem_cons.2 ⟨k_laws_eqLockS, List.forall_mem_cons.2 ⟨k_laws_eqMemory, List.forall_mem_cons.2 ⟨k_laws_FnExactMemoryOk, (by simp)⟩⟩⟩⟩⟩⟩⟩⟩⟩⟩⟩⟩⟩⟩⟩⟩⟩⟩⟩⟩⟩⟩⟩⟩⟩⟩⟩⟩⟩⟩⟩⟩⟩⟩⟩⟩⟩⟩⟩⟩⟩⟩⟩⟩⟩⟩⟩⟩⟩⟩⟩⟩⟩⟩⟩⟩⟩⟩⟩⟩⟩⟩⟩⟩⟩⟩⟩⟩⟩
theorem comps : AM.Comps Try.prog AM.Γ := AM.comps_of all_codes
theorem own : ownKnob Try.prog.godebug = none := by kernel_rfl
theorem mixed : Try.prog.follows .mixedOrders = true := by kernel_rfl
theorem kids : Kids Try.prog (· < Try.prog.types.size) := kids_rows (by kernel_rfl) (by kernel_rfl)
theorem full : ∀ t e, t < Try.prog.types.size → Try.prog.underlying t = some (.slice e) → 0 < Try.prog.cellsOf e := slices_full_of Try.prog (by kernel_rfl)
theorem one_le {H : Type} (d : DataW H) : 1 ≤ Rows.uptoBulk d := by
  cases d with
  | lit l => cases l <;> simp [Rows.uptoBulk]
  | nil => simp [Rows.uptoBulk]
  | ptr d => simp [Rows.uptoBulk]
  | slice elems spare => simp [Rows.uptoBulk]
  | agg parts => simp [Rows.uptoBulk]
  | iface t d => simp [Rows.uptoBulk]
  | map entries => simp [Rows.uptoBulk]
  | held h => simp [Rows.uptoBulk]
theorem bulk (H : Type) : AM.Bulk (H := H) Rows.uptoBulk Rows.uptoBulkAll := ⟨fun _ => by simp [Rows.uptoBulk], fun _ _ => by simp [Rows.uptoBulk], fun _ => by simp [Rows.uptoBulk], one_le, by simp [Rows.uptoBulkAll], fun _ _ => by simp [Rows.uptoBulkAll]⟩
theorem tys : Try.f13.params.toList.map (AM.tyOf Try.prog 20) = [(.struct [(.slice (.struct [.str, (.int .i64), (.slice (.struct [(.int .i64), (.int .i64), .str, .str])), (.slice (.struct [.str, .str])), (.slice (.struct [.str, (.int .i64), (.slice .str), .str, (.int .i64), (.slice (.struct [(.int .i64), (.int .i64)]))]))]))]), (.struct [(.slice (.struct [(.int .i64), (.int .i64), (.slice (.struct [.bool, (.int .i64)]))])), (.slice (.struct [(.int .i64), (.int .i64), (.int .i64)]))])].map some := by kernel_rfl
theorem lifted (os : Os) (started : os.Started) (H : Type) (enc : TypeId × Value → H) (F : Stop.Interp) :
    ReturnsInHanded {} Try.checked os 13 .any ((Rows.OpenSpec.upto Rows.fnExactMemoryOkSpec).pre6 enc Try.prog Try.f13 Rows.fnExactMemoryOkUptoRow.domain false) (((Rows.OpenSpec.upto Rows.fnExactMemoryOkSpec).at F).post enc Try.prog Try.f13 false true false false) := by
  refine returnsInHanded_of_cond (C := Try.checked) (s := Rows.OpenSpec.upto Rows.fnExactMemoryOkSpec) (k := Rows.uptoSmall) rfl own started (by kernel_rfl) Try.func13
    (OpenSpec.witness (enc := enc) (C := Try.checked) (s := Rows.OpenSpec.upto Rows.fnExactMemoryOkSpec) (k := Rows.uptoSmall) rfl false ⟨#[], #[.agg #[.slice none 0 0], .agg #[.slice none 0 0, .slice none 0 0]], []⟩ 30 (by kernel_rfl) (by kernel_rfl) (by kernel_rfl)
      (x := ([.agg [.nil], .agg [.nil, .nil]], [], [])) (by kernel_rfl) rfl (by kernel_rfl)) ?_
  intro W base args ds gs before hval hW _ hk _
  have hfn : ∀ ds : List (DataW H), ds.length = 2 → Rows.fnExactMemoryOkSpec.fn H ds = { results := [.lit (.bool true)], args := ds } := by
    intro ds hd
    match ds, hd with
    | [d0, d1], _ => rfl
  exact AM.law_contract comps mixed AM.laws_FnExactMemoryOk_law (bulk H) tys rfl hfn (tb := 4) (by kernel_rfl) (by kernel_rfl) kids full (of_decide_eq_true (by kernel_rfl)) base args ds gs before hval hW (of_decide_eq_true hk)
theorem over : Rows.fnExactMemoryOkUptoRow.holds Try.pinned (Rows.OpenSpec.upto Rows.fnExactMemoryOkSpec) :=
  OpenClaim.holds_of_cond 13 Try.f13 rfl rfl rfl rfl rfl rfl rfl ⟨rfl, rfl, rfl, rfl, rfl⟩ rfl rfl rfl rfl rfl (by kernel_rfl) Try.func13 (by kernel_rfl)
    (of_decide_eq_true (by kernel_rfl)) (by unfold Func.isWrapper; first | (rw [if_pos (by decide +kernel)]; kernel_rfl) | (rw [if_neg (by decide +kernel)]; exact ⟨rfl, rfl⟩))
    (fun os started H enc _ F => lifted os started H enc F)
theorem proved : Rows.FnExactMemoryOkUptoSaid := over
#print axioms proved
end Go.Proofs.Ytplemhkpafmhgaa.LExactMemoryOk
