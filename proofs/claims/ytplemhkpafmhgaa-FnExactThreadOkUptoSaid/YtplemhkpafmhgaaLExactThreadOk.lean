/- FnExactThreadOk answers true, whatever the input of bulk at most 1048576: the code is what the translation says, the machine AM runs it, and the law holds of what it runs. -/
import Derived.Test.YtplemhkpafmhgaaRows
import Derived.Test.YtplemhkpafmhgaaLExactThreadOkP
import Derived.WalkKit
import Derived.ProofKit
import Derived.OpenShut
import Derived.JoinedCond
import Derived.ReadAgain
namespace Go.Proofs.Ytplemhkpafmhgaa.LExactThreadOk
open Go.ChangeShapes Go.WideShapes Go.ChangeAt Go.RowKit
set_option linter.unusedVariables false
set_option maxRecDepth 100000
theorem k_laws_szConst : ∃ fn H L, Try.prog.funcs[AM.n_laws_szConst]? = some fn ∧ AM.compF Try.prog H L fn = some AM.a_laws_szConst := ⟨Try.f125, { lend := [], mvs := [], lst := [], pure := [] }, [], Try.func125, by kernel_rfl⟩
theorem k_laws_szConstS : ∃ fn H L, Try.prog.funcs[AM.n_laws_szConstS]? = some fn ∧ AM.compF Try.prog H L fn = some AM.a_laws_szConstS := ⟨Try.f110, { lend := [], mvs := [], lst := [], pure := [] }, [[0, 1, 5]], Try.func110, by kernel_rfl⟩
theorem k_laws_szField : ∃ fn H L, Try.prog.funcs[AM.n_laws_szField]? = some fn ∧ AM.compF Try.prog H L fn = some AM.a_laws_szField := ⟨Try.f126, { lend := [], mvs := [], lst := [], pure := [] }, [], Try.func126, by kernel_rfl⟩
theorem k_laws_szFieldS : ∃ fn H L, Try.prog.funcs[AM.n_laws_szFieldS]? = some fn ∧ AM.compF Try.prog H L fn = some AM.a_laws_szFieldS := ⟨Try.f111, { lend := [], mvs := [], lst := [], pure := [] }, [[0, 1, 5]], Try.func111, by kernel_rfl⟩
theorem k_laws_szStringS : ∃ fn H L, Try.prog.funcs[AM.n_laws_szStringS]? = some fn ∧ AM.compF Try.prog H L fn = some AM.a_laws_szStringS := ⟨Try.f136, { lend := [], mvs := [], lst := [], pure := [] }, [[0, 1, 5]], Try.func136, by kernel_rfl⟩
theorem k_laws_szInsS : ∃ fn H L, Try.prog.funcs[AM.n_laws_szInsS]? = some fn ∧ AM.compF Try.prog H L fn = some AM.a_laws_szInsS := ⟨Try.f137, { lend := [], mvs := [], lst := [], pure := [] }, [], Try.func137, by kernel_rfl⟩
theorem k_laws_szCode : ∃ fn H L, Try.prog.funcs[AM.n_laws_szCode]? = some fn ∧ AM.compF Try.prog H L fn = some AM.a_laws_szCode := ⟨Try.f127, { lend := [], mvs := [], lst := [], pure := [] }, [], Try.func127, by kernel_rfl⟩
theorem k_laws_szCodeS : ∃ fn H L, Try.prog.funcs[AM.n_laws_szCodeS]? = some fn ∧ AM.compF Try.prog H L fn = some AM.a_laws_szCodeS := ⟨Try.f112, { lend := [], mvs := [], lst := [], pure := [] }, [[0, 1, 5]], Try.func112, by kernel_rfl⟩
theorem k_laws_szKind : ∃ fn H L, Try.prog.funcs[AM.n_laws_szKind]? = some fn ∧ AM.compF Try.prog H L fn = some AM.a_laws_szKind := ⟨Try.f92, { lend := [], mvs := [], lst := [], pure := [] }, [], Try.func92, by kernel_rfl⟩
theorem k_laws_szKindS : ∃ fn H L, Try.prog.funcs[AM.n_laws_szKindS]? = some fn ∧ AM.compF Try.prog H L fn = some AM.a_laws_szKindS := ⟨Try.f59, { lend := [], mvs := [], lst := [], pure := [] }, [[0, 1, 5]], Try.func59, by kernel_rfl⟩
theorem k_laws_szProg : ∃ fn H L, Try.prog.funcs[AM.n_laws_szProg]? = some fn ∧ AM.compF Try.prog H L fn = some AM.a_laws_szProg := ⟨Try.f15, { lend := [], mvs := [], lst := [], pure := [] }, [], Try.func15, by kernel_rfl⟩
theorem k_laws_szValS : ∃ fn H L, Try.prog.funcs[AM.n_laws_szValS]? = some fn ∧ AM.compF Try.prog H L fn = some AM.a_laws_szValS := ⟨Try.f121, { lend := [], mvs := [], lst := [], pure := [] }, [], Try.func121, by kernel_rfl⟩
theorem k_laws_szFrame : ∃ fn H L, Try.prog.funcs[AM.n_laws_szFrame]? = some fn ∧ AM.compF Try.prog H L fn = some AM.a_laws_szFrame := ⟨Try.f99, { lend := [], mvs := [], lst := [], pure := [] }, [], Try.func99, by kernel_rfl⟩
theorem k_laws_szFrameS : ∃ fn H L, Try.prog.funcs[AM.n_laws_szFrameS]? = some fn ∧ AM.compF Try.prog H L fn = some AM.a_laws_szFrameS := ⟨Try.f72, { lend := [], mvs := [], lst := [], pure := [] }, [[0, 1, 5]], Try.func72, by kernel_rfl⟩
theorem k_laws_szThread : ∃ fn H L, Try.prog.funcs[AM.n_laws_szThread]? = some fn ∧ AM.compF Try.prog H L fn = some AM.a_laws_szThread := ⟨Try.f45, { lend := [], mvs := [], lst := [], pure := [] }, [], Try.func45, by kernel_rfl⟩
theorem k_laws_toConst : ∃ fn H L, Try.prog.funcs[AM.n_laws_toConst]? = some fn ∧ AM.compF Try.prog H L fn = some AM.a_laws_toConst := ⟨Try.f128, { lend := [], mvs := [], lst := [], pure := [] }, [], Try.func128, by kernel_rfl⟩
theorem k_laws_toConstS : ∃ fn H L, Try.prog.funcs[AM.n_laws_toConstS]? = some fn ∧ AM.compF Try.prog H L fn = some AM.a_laws_toConstS := ⟨Try.f113, { lend := [], mvs := [], lst := [], pure := [] }, [[0, 3, 4]], Try.func113, by kernel_rfl⟩
theorem k_laws_toField : ∃ fn H L, Try.prog.funcs[AM.n_laws_toField]? = some fn ∧ AM.compF Try.prog H L fn = some AM.a_laws_toField := ⟨Try.f129, { lend := [], mvs := [], lst := [], pure := [] }, [], Try.func129, by kernel_rfl⟩
theorem k_laws_toFieldS : ∃ fn H L, Try.prog.funcs[AM.n_laws_toFieldS]? = some fn ∧ AM.compF Try.prog H L fn = some AM.a_laws_toFieldS := ⟨Try.f114, { lend := [], mvs := [], lst := [], pure := [] }, [[0, 3, 4]], Try.func114, by kernel_rfl⟩
theorem k_laws_toStringS : ∃ fn H L, Try.prog.funcs[AM.n_laws_toStringS]? = some fn ∧ AM.compF Try.prog H L fn = some AM.a_laws_toStringS := ⟨Try.f138, { lend := [], mvs := [], lst := [], pure := [] }, [[0, 3, 4]], Try.func138, by kernel_rfl⟩
theorem k_laws_toIns : ∃ fn H L, Try.prog.funcs[AM.n_laws_toIns]? = some fn ∧ AM.compF Try.prog H L fn = some AM.a_laws_toIns := ⟨Try.f142, { lend := [], mvs := [], lst := [], pure := [] }, [], Try.func142, by kernel_rfl⟩
theorem k_laws_toInsS : ∃ fn H L, Try.prog.funcs[AM.n_laws_toInsS]? = some fn ∧ AM.compF Try.prog H L fn = some AM.a_laws_toInsS := ⟨Try.f139, { lend := [], mvs := [], lst := [], pure := [] }, [[0, 3, 4]], Try.func139, by kernel_rfl⟩
theorem k_laws_toCode : ∃ fn H L, Try.prog.funcs[AM.n_laws_toCode]? = some fn ∧ AM.compF Try.prog H L fn = some AM.a_laws_toCode := ⟨Try.f130, { lend := [], mvs := [], lst := [], pure := [] }, [], Try.func130, by kernel_rfl⟩
theorem k_laws_toCodeS : ∃ fn H L, Try.prog.funcs[AM.n_laws_toCodeS]? = some fn ∧ AM.compF Try.prog H L fn = some AM.a_laws_toCodeS := ⟨Try.f115, { lend := [], mvs := [], lst := [], pure := [] }, [[0, 3, 4]], Try.func115, by kernel_rfl⟩
theorem k_laws_toKind : ∃ fn H L, Try.prog.funcs[AM.n_laws_toKind]? = some fn ∧ AM.compF Try.prog H L fn = some AM.a_laws_toKind := ⟨Try.f93, { lend := [], mvs := [], lst := [], pure := [] }, [], Try.func93, by kernel_rfl⟩
theorem k_laws_toKindS : ∃ fn H L, Try.prog.funcs[AM.n_laws_toKindS]? = some fn ∧ AM.compF Try.prog H L fn = some AM.a_laws_toKindS := ⟨Try.f61, { lend := [], mvs := [], lst := [], pure := [] }, [[0, 3, 4]], Try.func61, by kernel_rfl⟩
theorem k_laws_toProg : ∃ fn H L, Try.prog.funcs[AM.n_laws_toProg]? = some fn ∧ AM.compF Try.prog H L fn = some AM.a_laws_toProg := ⟨Try.f17, { lend := [], mvs := [], lst := [], pure := [] }, [], Try.func17, by kernel_rfl⟩
theorem k_laws_toVal : ∃ fn H L, Try.prog.funcs[AM.n_laws_toVal]? = some fn ∧ AM.compF Try.prog H L fn = some AM.a_laws_toVal := ⟨Try.f135, { lend := [], mvs := [], lst := [], pure := [] }, [], Try.func135, by kernel_rfl⟩
theorem k_laws_toValS : ∃ fn H L, Try.prog.funcs[AM.n_laws_toValS]? = some fn ∧ AM.compF Try.prog H L fn = some AM.a_laws_toValS := ⟨Try.f123, { lend := [], mvs := [], lst := [], pure := [] }, [[0, 3, 4]], Try.func123, by kernel_rfl⟩
theorem k_laws_toFrame : ∃ fn H L, Try.prog.funcs[AM.n_laws_toFrame]? = some fn ∧ AM.compF Try.prog H L fn = some AM.a_laws_toFrame := ⟨Try.f102, { lend := [], mvs := [], lst := [], pure := [] }, [], Try.func102, by kernel_rfl⟩
theorem k_laws_toFrameS : ∃ fn H L, Try.prog.funcs[AM.n_laws_toFrameS]? = some fn ∧ AM.compF Try.prog H L fn = some AM.a_laws_toFrameS := ⟨Try.f74, { lend := [], mvs := [], lst := [], pure := [] }, [[0, 3, 4]], Try.func74, by kernel_rfl⟩
theorem k_laws_toThread : ∃ fn H L, Try.prog.funcs[AM.n_laws_toThread]? = some fn ∧ AM.compF Try.prog H L fn = some AM.a_laws_toThread := ⟨Try.f47, { lend := [], mvs := [], lst := [], pure := [] }, [], Try.func47, by kernel_rfl⟩
theorem k_spec_l1In : ∃ fn H L, Try.prog.funcs[AM.n_spec_l1In]? = some fn ∧ AM.compF Try.prog H L fn = some AM.a_spec_l1In := ⟨Try.f60, { lend := [], mvs := [], lst := [], pure := [] }, [], Try.func60, by kernel_rfl⟩
theorem k_spec_l12Method : ∃ fn H L, Try.prog.funcs[AM.n_spec_l12Method]? = some fn ∧ AM.compF Try.prog H L fn = some AM.a_spec_l12Method := ⟨Try.f100, { lend := [], mvs := [], lst := [], pure := [] }, [], Try.func100, by kernel_rfl⟩
theorem k_spec_l1Word : ∃ fn H L, Try.prog.funcs[AM.n_spec_l1Word]? = some fn ∧ AM.compF Try.prog H L fn = some AM.a_spec_l1Word := ⟨Try.f134, { lend := [], mvs := [], lst := [], pure := [] }, [], Try.func134, by kernel_rfl⟩
theorem k_spec_ValOk : ∃ fn H L, Try.prog.funcs[AM.n_spec_ValOk]? = some fn ∧ AM.compF Try.prog H L fn = some AM.a_spec_ValOk := ⟨Try.f122, { lend := [], mvs := [], lst := [], pure := [] }, [], Try.func122, by kernel_rfl⟩
theorem k_spec_l14Vals : ∃ fn H L, Try.prog.funcs[AM.n_spec_l14Vals]? = some fn ∧ AM.compF Try.prog H L fn = some AM.a_spec_l14Vals := ⟨Try.f101, { lend := [], mvs := [], lst := [], pure := [] }, [[0, 3]], Try.func101, by kernel_rfl⟩
theorem k_spec_l14Frame : ∃ fn H L, Try.prog.funcs[AM.n_spec_l14Frame]? = some fn ∧ AM.compF Try.prog H L fn = some AM.a_spec_l14Frame := ⟨Try.f73, { lend := [], mvs := [], lst := [], pure := [] }, [], Try.func73, by kernel_rfl⟩
theorem k_spec_ThreadOk : ∃ fn H L, Try.prog.funcs[AM.n_spec_ThreadOk]? = some fn ∧ AM.compF Try.prog H L fn = some AM.a_spec_ThreadOk := ⟨Try.f46, { lend := [], mvs := [], lst := [], pure := [] }, [[2, 3, 5]], Try.func46, by kernel_rfl⟩
theorem k_impl_within : ∃ fn H L, Try.prog.funcs[AM.n_impl_within]? = some fn ∧ AM.compF Try.prog H L fn = some AM.a_impl_within := ⟨Try.f62, { lend := [], mvs := [], lst := [], pure := [] }, [], Try.func62, by kernel_rfl⟩
theorem k_impl_isId : ∃ fn H L, Try.prog.funcs[AM.n_impl_isId]? = some fn ∧ AM.compF Try.prog H L fn = some AM.a_impl_isId := ⟨Try.f75, { lend := [], mvs := [], lst := [], pure := [] }, [], Try.func75, by kernel_rfl⟩
theorem k_impl_hasMethod : ∃ fn H L, Try.prog.funcs[AM.n_impl_hasMethod]? = some fn ∧ AM.compF Try.prog H L fn = some AM.a_impl_hasMethod := ⟨Try.f76, { lend := [], mvs := [], lst := [], pure := [] }, [], Try.func76, by kernel_rfl⟩
theorem k_impl_isWord : ∃ fn H L, Try.prog.funcs[AM.n_impl_isWord]? = some fn ∧ AM.compF Try.prog H L fn = some AM.a_impl_isWord := ⟨Try.f124, { lend := [], mvs := [], lst := [], pure := [] }, [], Try.func124, by kernel_rfl⟩
theorem k_impl_ValOk : ∃ fn H L, Try.prog.funcs[AM.n_impl_ValOk]? = some fn ∧ AM.compF Try.prog H L fn = some AM.a_impl_ValOk := ⟨Try.f103, { lend := [], mvs := [], lst := [], pure := [] }, [], Try.func103, by kernel_rfl⟩
theorem k_impl_valsOk : ∃ fn H L, Try.prog.funcs[AM.n_impl_valsOk]? = some fn ∧ AM.compF Try.prog H L fn = some AM.a_impl_valsOk := ⟨Try.f77, { lend := [], mvs := [], lst := [], pure := [] }, [[5, 6, 7]], Try.func77, by kernel_rfl⟩
theorem k_impl_ThreadOk : ∃ fn H L, Try.prog.funcs[AM.n_impl_ThreadOk]? = some fn ∧ AM.compF Try.prog H L fn = some AM.a_impl_ThreadOk := ⟨Try.f48, { lend := [], mvs := [], lst := [], pure := [] }, [[2, 3, 30, 31, 32]], Try.func48, by kernel_rfl⟩
theorem k_laws_eqConst : ∃ fn H L, Try.prog.funcs[AM.n_laws_eqConst]? = some fn ∧ AM.compF Try.prog H L fn = some AM.a_laws_eqConst := ⟨Try.f131, { lend := [], mvs := [], lst := [], pure := [] }, [], Try.func131, by kernel_rfl⟩
theorem k_laws_eqConstS : ∃ fn H L, Try.prog.funcs[AM.n_laws_eqConstS]? = some fn ∧ AM.compF Try.prog H L fn = some AM.a_laws_eqConstS := ⟨Try.f116, { lend := [], mvs := [], lst := [], pure := [] }, [[0, 1, 5]], Try.func116, by kernel_rfl⟩
theorem k_laws_eqField : ∃ fn H L, Try.prog.funcs[AM.n_laws_eqField]? = some fn ∧ AM.compF Try.prog H L fn = some AM.a_laws_eqField := ⟨Try.f132, { lend := [], mvs := [], lst := [], pure := [] }, [], Try.func132, by kernel_rfl⟩
theorem k_laws_eqFieldS : ∃ fn H L, Try.prog.funcs[AM.n_laws_eqFieldS]? = some fn ∧ AM.compF Try.prog H L fn = some AM.a_laws_eqFieldS := ⟨Try.f117, { lend := [], mvs := [], lst := [], pure := [] }, [[0, 1, 5]], Try.func117, by kernel_rfl⟩
theorem k_laws_eqStringS : ∃ fn H L, Try.prog.funcs[AM.n_laws_eqStringS]? = some fn ∧ AM.compF Try.prog H L fn = some AM.a_laws_eqStringS := ⟨Try.f140, { lend := [], mvs := [], lst := [], pure := [] }, [[0, 1, 5]], Try.func140, by kernel_rfl⟩
theorem k_laws_eqIns : ∃ fn H L, Try.prog.funcs[AM.n_laws_eqIns]? = some fn ∧ AM.compF Try.prog H L fn = some AM.a_laws_eqIns := ⟨Try.f143, { lend := [], mvs := [], lst := [], pure := [] }, [], Try.func143, by kernel_rfl⟩
theorem k_laws_eqInsS : ∃ fn H L, Try.prog.funcs[AM.n_laws_eqInsS]? = some fn ∧ AM.compF Try.prog H L fn = some AM.a_laws_eqInsS := ⟨Try.f141, { lend := [], mvs := [], lst := [], pure := [] }, [[0, 1, 5]], Try.func141, by kernel_rfl⟩
theorem k_laws_eqCode : ∃ fn H L, Try.prog.funcs[AM.n_laws_eqCode]? = some fn ∧ AM.compF Try.prog H L fn = some AM.a_laws_eqCode := ⟨Try.f133, { lend := [], mvs := [], lst := [], pure := [] }, [], Try.func133, by kernel_rfl⟩
theorem k_laws_eqCodeS : ∃ fn H L, Try.prog.funcs[AM.n_laws_eqCodeS]? = some fn ∧ AM.compF Try.prog H L fn = some AM.a_laws_eqCodeS := ⟨Try.f118, { lend := [], mvs := [], lst := [], pure := [] }, [[0, 1, 5]], Try.func118, by kernel_rfl⟩
theorem k_laws_eqKind : ∃ fn H L, Try.prog.funcs[AM.n_laws_eqKind]? = some fn ∧ AM.compF Try.prog H L fn = some AM.a_laws_eqKind := ⟨Try.f94, { lend := [], mvs := [], lst := [], pure := [] }, [], Try.func94, by kernel_rfl⟩
theorem k_laws_eqKindS : ∃ fn H L, Try.prog.funcs[AM.n_laws_eqKindS]? = some fn ∧ AM.compF Try.prog H L fn = some AM.a_laws_eqKindS := ⟨Try.f63, { lend := [], mvs := [], lst := [], pure := [] }, [[0, 1, 5]], Try.func63, by kernel_rfl⟩
theorem k_laws_eqProg : ∃ fn H L, Try.prog.funcs[AM.n_laws_eqProg]? = some fn ∧ AM.compF Try.prog H L fn = some AM.a_laws_eqProg := ⟨Try.f20, { lend := [], mvs := [], lst := [], pure := [] }, [], Try.func20, by kernel_rfl⟩
theorem k_laws_eqVal : ∃ fn H L, Try.prog.funcs[AM.n_laws_eqVal]? = some fn ∧ AM.compF Try.prog H L fn = some AM.a_laws_eqVal := ⟨Try.f70, { lend := [], mvs := [], lst := [], pure := [] }, [], Try.func70, by kernel_rfl⟩
theorem k_laws_eqValS : ∃ fn H L, Try.prog.funcs[AM.n_laws_eqValS]? = some fn ∧ AM.compF Try.prog H L fn = some AM.a_laws_eqValS := ⟨Try.f41, { lend := [], mvs := [], lst := [], pure := [] }, [[0, 1, 5]], Try.func41, by kernel_rfl⟩
theorem k_laws_eqFrame : ∃ fn H L, Try.prog.funcs[AM.n_laws_eqFrame]? = some fn ∧ AM.compF Try.prog H L fn = some AM.a_laws_eqFrame := ⟨Try.f104, { lend := [], mvs := [], lst := [], pure := [] }, [], Try.func104, by kernel_rfl⟩
theorem k_laws_eqFrameS : ∃ fn H L, Try.prog.funcs[AM.n_laws_eqFrameS]? = some fn ∧ AM.compF Try.prog H L fn = some AM.a_laws_eqFrameS := ⟨Try.f78, { lend := [], mvs := [], lst := [], pure := [] }, [[0, 1, 5]], Try.func78, by kernel_rfl⟩
theorem k_laws_eqThread : ∃ fn H L, Try.prog.funcs[AM.n_laws_eqThread]? = some fn ∧ AM.compF Try.prog H L fn = some AM.a_laws_eqThread := ⟨Try.f49, { lend := [], mvs := [], lst := [], pure := [] }, [], Try.func49, by kernel_rfl⟩
theorem k_laws_FnExactThreadOk : ∃ fn H L, Try.prog.funcs[AM.n_laws_FnExactThreadOk]? = some fn ∧ AM.compF Try.prog H L fn = some AM.a_laws_FnExactThreadOk := ⟨Try.f12, { lend := [], mvs := [], lst := [], pure := [] }, [], Try.func12, by kernel_rfl⟩
theorem all_codes : ∀ x ∈ AM.codes, ∃ fn H L, Try.prog.funcs[x.1]? = some fn ∧ AM.compF Try.prog H L fn = some x.2 := by
  unfold AM.codes
  exact List.forall_mem_cons.2 ⟨k_laws_szConst, List.forall_mem_cons.2 ⟨k_laws_szConstS, List.forall_mem_cons.2 ⟨k_laws_szField, List.forall_mem_cons.2 ⟨k_laws_szFieldS, List.forall_mem_cons.2 ⟨k_laws_szStringS, List.forall_mem_cons.2 ⟨k_laws_szInsS, List.forall_mem_cons.2 ⟨k_laws_szCode, List.forall_mem_cons.2 ⟨k_laws_szCodeS, List.forall_mem_cons.2 ⟨k_laws_szKind, List.forall_mem_cons.2 ⟨k_laws_szKindS, List.forall_mem_cons.2 ⟨k_laws_szProg, List.forall_mem_cons.2 ⟨k_laws_szValS, List.forall_mem_cons.2 ⟨k_laws_szFrame, List.forall_mem_cons.2 ⟨k_laws_szFrameS, List.forall_mem_cons.2 ⟨k_laws_szThread, List.forall_mem_cons.2 ⟨k_laws_toConst, List.forall_mem_cons.2 ⟨k_laws_toConstS, List.forall_mem_cons.2 ⟨k_laws_toField, List.forall_mem_cons.2 ⟨k_laws_toFieldS, List.forall_mem_cons.2 ⟨k_laws_toStringS, List.forall_mem_cons.2 ⟨k_laws_toIns, List.forall_mem_cons.2 ⟨k_laws_toInsS, List.forall_mem_cons.2 ⟨k_laws_toCode, List.forall_mem_cons.2 ⟨k_laws_toCodeS, List.forall_mem_cons.2 ⟨k_laws_toKind, List.forall_mem_cons.2 ⟨k_laws_toKindS, List.forall_mem_cons.2 ⟨k_laws_toProg, List.forall_mem_cons.2 ⟨k_laws_toVal, List.forall_mem_cons.2 ⟨k_laws_toValS, List.forall_mem_cons.2 ⟨k_laws_toFrame, List.forall_mem_cons.2 ⟨k_laws_toFrameS, List.forall_mem_cons.2 ⟨k_laws_toThread, List.forall_mem_cons.2 ⟨k_spec_l1In, List.forall_mem_cons.2 ⟨k_spec_l12Method, List.forall_mem_cons.2 ⟨k_spec_l1Word, List.forall_mem_cons.2 ⟨k_spec_ValOk, List.forall_mem_cons.2 ⟨k_spec_l14Vals, List.forall_mem_cons.2 ⟨k_spec_l14Frame, List.forall_mem_cons.2 ⟨k_spec_ThreadOk, List.forall_mem_cons.2 ⟨k_impl_within, List.forall_mem_cons.2 ⟨k_impl_isId, List.forall_mem_cons.2 ⟨k_impl_hasMethod, List.forall_mem_cons.2 ⟨k_impl_isWord, List.forall_mem_cons.2 ⟨k_impl_ValOk, List.forall_mem_cons.2 ⟨k_impl_valsOk, List.forall_mem_cons.2 ⟨k_impl_ThreadOk, List.forall_mem_cons.2 ⟨k_laws_eqConst, List.forall_mem_cons.2 ⟨k_laws_eqConstS, List.forall_mem_cons.2 ⟨k_laws_eqField, List.forall_mem_cons.2 ⟨k_laws_eqFieldS, List.forall_mem_cons.2 ⟨k_laws_eqStringS, List.forall_mem_cons.2 ⟨k_laws_eqIns, List.forall_mem_cons.2 ⟨k_laws_eqInsS, List.forall_mem_cons.2 ⟨k_laws_eqCode, List.forall_mem_cons.2 ⟨k_laws_eqCodeS, List.forall_mem_cons.2 ⟨k_laws_eqKind, List.forall_mem_cons.2 ⟨k_laws_eqKindS, List.forall_mem_cons.2 ⟨k_laws_eqProg, List.forall_mem_cons.2 ⟨k_laws_eqVal, List.forall_mem_cons.2 ⟨k_laws_eqValS, List.forall_mem_cons.2 ⟨k_laws_eqFrame, List.forall_mem_cons.2 ⟨k_laws_eqFrameS, List.forall_mem_cons.2 ⟨k_laws_eqThread, List.forall_mem_cons.2 ⟨k_laws_FnExactThreadOk, (by simp)⟩⟩⟩⟩⟩⟩⟩⟩⟩⟩⟩⟩⟩⟩⟩⟩⟩⟩⟩⟩⟩⟩⟩⟩⟩⟩⟩⟩⟩⟩⟩⟩⟩⟩⟩⟩⟩⟩⟩⟩⟩⟩⟩⟩⟩⟩⟩⟩⟩⟩⟩⟩⟩⟩⟩⟩⟩⟩⟩⟩⟩⟩⟩⟩
theorem comps : AM.Comps Try.prog AM.Γ := AM.comps_of all_codes
theorem own : ownKnob Try.prog.godebug = none := by kernel_rfl
theorem mixed : Try.prog.follows .mixedOrders = true := by kernel_rfl
theorem kids : Kids Try.prog (· < Try.prog.types.size) := kids_rows (by kernel_rfl) (by kernel_rfl)
theorem full : ∀ t e, t < Try.prog.types.size → Try.prog.underlying t = some (.slice e) → 0 < Try.prog.cellsOf e := slices_full_of Try.prog (by kernel_rfl)
theorem one_le {H : Type} (d : DataW H) : 1 ≤ Rows.uptoBulk d := by
  cases d with
  | lit l => cases l <;> simp [Rows.uptoBulk]
  | nil => simp [Rows.uptoBulk]
  | ptr d => simp [Rows.uptoBulk]
  | slice elems spare => simp [Rows.uptoBulk]
  | agg parts => simp [Rows.uptoBulk]
  | iface t d => simp [Rows.uptoBulk]
  | map entries => simp [Rows.uptoBulk]
  | held h => simp [Rows.uptoBulk]
theorem bulk (H : Type) : AM.Bulk (H := H) Rows.uptoBulk Rows.uptoBulkAll := ⟨fun _ => by simp [Rows.uptoBulk], fun _ _ => by simp [Rows.uptoBulk], fun _ => by simp [Rows.uptoBulk], one_le, by simp [Rows.uptoBulkAll], fun _ _ => by simp [Rows.uptoBulkAll]⟩
theorem tys : Try.f12.params.toList.map (AM.tyOf Try.prog 20) = [(.struct [(.slice (.struct [.str, (.int .i64), (.slice (.struct [(.int .i64), (.int .i64), .str, .str])), (.slice (.struct [.str, .str])), (.slice (.struct [.str, (.int .i64), (.slice .str), .str, (.int .i64), (.slice (.struct [(.int .i64), (.int .i64)]))]))]))]), (.struct [(.int .i64), (.slice (.struct [(.int .i64), (.int .i64), (.int .i64), (.slice (.struct [.bool, (.int .i64)])), (.slice (.struct [.bool, (.int .i64)]))])), (.int .i64), (.int .i64)])].map some := by kernel_rfl
theorem lifted (os : Os) (started : os.Started) (H : Type) (enc : TypeId × Value → H) (F : Stop.Interp) :
    ReturnsInHanded {} Try.checked os 12 .any ((Rows.OpenSpec.upto Rows.fnExactThreadOkSpec).pre6 enc Try.prog Try.f12 Rows.fnExactThreadOkUptoRow.domain false) (((Rows.OpenSpec.upto Rows.fnExactThreadOkSpec).at F).post enc Try.prog Try.f12 false true false false) := by
  refine returnsInHanded_of_cond (C := Try.checked) (s := Rows.OpenSpec.upto Rows.fnExactThreadOkSpec) (k := Rows.uptoSmall) rfl own started (by kernel_rfl) Try.func12
    (OpenSpec.witness (enc := enc) (C := Try.checked) (s := Rows.OpenSpec.upto Rows.fnExactThreadOkSpec) (k := Rows.uptoSmall) rfl false ⟨#[], #[.agg #[.slice none 0 0], .agg #[.int .i64 0, .slice none 0 0, .int .i64 0, .int .i64 0]], []⟩ 30 (by kernel_rfl) (by kernel_rfl) (by kernel_rfl)
      (x := ([.agg [.nil], .agg [.lit (.int .i64 0), .nil, .lit (.int .i64 0), .lit (.int .i64 0)]], [], [])) (by kernel_rfl) rfl (by kernel_rfl)) ?_
  intro W base args ds gs before hval hW _ hk _
  have hfn : ∀ ds : List (DataW H), ds.length = 2 → Rows.fnExactThreadOkSpec.fn H ds = { results := [.lit (.bool true)], args := ds } := by
    intro ds hd
    match ds, hd with
    | [d0, d1], _ => rfl
  exact AM.law_contract comps mixed AM.laws_FnExactThreadOk_law (bulk H) tys rfl hfn (tb := 4) (by kernel_rfl) (by kernel_rfl) kids full (of_decide_eq_true (by kernel_rfl)) base args ds gs before hval hW (of_decide_eq_true hk)
theorem over : Rows.fnExactThreadOkUptoRow.holds Try.pinned (Rows.OpenSpec.upto Rows.fnExactThreadOkSpec) :=
  OpenClaim.holds_of_cond 12 Try.f12 rfl rfl rfl rfl rfl rfl rfl ⟨rfl, rfl, rfl, rfl, rfl⟩ rfl rfl rfl rfl rfl (by kernel_rfl) Try.func12 (by kernel_rfl)
    (of_decide_eq_true (by kernel_rfl)) (by unfold Func.isWrapper; first | (rw [if_pos (by decide +kernel)]; kernel_rfl) | (rw [if_neg (by decide +kernel)]; exact ⟨rfl, rfl⟩))
    (fun os started H enc _ F => lifted os started H enc F)
theorem proved : Rows.FnExactThreadOkUptoSaid := over
#print axioms proved
end Go.Proofs.Ytplemhkpafmhgaa.LExactThreadOk
