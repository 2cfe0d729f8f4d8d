/- The abstract machine AM, part 2. -/
import Derived.Laws.Strings
import Derived.Laws.BitsLemmas
import Derived.Test.YtokgcleggkmmoaaAm1
set_option linter.unusedVariables false
set_option linter.unusedSimpArgs false
namespace AM
open Go
attribute [simp] wp_skip wp_exit wp_ret wp_seq wp_block wp_reg wp_loop seqQ_n seqQ_e seqQ_r blkQ_n blkQ_e blkQ_r loopQ_e loopQ_r wpR_nil
section
variable {Γ : Nat → Option AF} {nb : Nat} {Q : X → St → Prop} {K : St → Prop} {σ : Nat → SV} {bx : BX} {h : Heap} {os : List Oper} {s : St}
@[simp] theorem upd_get {α : Type} (f : Nat → α) (k : Nat) (x : α) (j : Nat) : upd f k x j = if j = k then x else f j := rfl
@[simp] theorem bnew_get (id : Id) (cs : List SV) (j : Id) : bnew bx id cs j = if j = id then some cs else bx j := rfl
@[simp] theorem hnew_get (id : Id) (t : T) (j : Id) : hnew h id t j = if j = id then some t else h j := rfl
@[simp] theorem hput_get (id : Id) (p : Path) (t : T) (j : Id) : hput h id p t j = if j = id then (h id).map (·.set p t) else h j := rfl
@[simp] theorem hat_eq (id : Id) (p : Path) : hat h id p = (h id).bind (·.at p) := rfl
@[simp] theorem ev_t (n : Nat) : (Opd.t n).ev σ = σ n := rfl
@[simp] theorem ev_c (v : SV) : (Opd.c v).ev σ = v := rfl
@[simp] theorem at_nil (t : T) : t.at [] = some t := by cases t <;> rfl
@[simp] theorem set_nil (t x : T) : t.set [] x = x := by cases t <;> rfl
def finQ (res : List RV) (vs : List V) : X → St → Prop
  | .e _, _ => False
  | .n, s => ∃ hh, getRes s.σ s.bx s.h res = some (vs, hh)
  | .r, s => ∃ hh, getRes s.σ s.bx s.h res = some (vs, hh)
@[simp] theorem finQ_n {res : List RV} {vs : List V} : finQ res vs .n s = ∃ hh, getRes s.σ s.bx s.h res = some (vs, hh) := rfl
@[simp] theorem finQ_r {res : List RV} {vs : List V} : finQ res vs .r s = ∃ hh, getRes s.σ s.bx s.h res = some (vs, hh) := rfl
theorem ret_of {f : Nat} {af : AF} {as : List SV} {vs : List V} (hf : Γ f = some af) (hw : wp Γ 0 af.code ⟨fun i => as.getD i .u, fun _ => none, fun _ => none⟩ (finQ af.res vs)) : ret Γ f as = some vs := by
  obtain ⟨x, s, h1, h2⟩ := hw
  have hx : (x = .n ∨ x = .r) ∧ ∃ hh, getRes s.σ s.bx s.h af.res = some (vs, hh) := by
    cases x with
    | n => exact ⟨.inl rfl, h2⟩
    | r => exact ⟨.inr rfl, h2⟩
    | e _ => exact h2.elim
  obtain ⟨h3, hh, h4⟩ := hx
  have hb : (fun id : Id => if id.1 = 0 then ([] : List (List SV))[id.2]? else none) = fun _ => none := by funext id; simp
  have := den_of (Γ := Γ) (f := f) (a := as) (h := fun _ => none) (b := []) (af := af) (x := x) (s := s) (r := (vs, hh, [])) hf (by rw [hb]; exact h1) h3 (by simp [fin, h4, getB])
  simp [ret, this]
/-- What an operation yields goes into its slot. -/
def stepE (r : Option (SV × BX × Heap)) (Γ : Nat → Option AF) (os : List Oper) (σ : Nat → SV) (d : Nat) (K : St → Prop) : Prop := yld r fun v b hh => wpR Γ os ⟨upd σ d v, b, hh⟩ K
@[simp] theorem stepE_some {v : SV} {b : BX} {hh : Heap} {d : Nat} : stepE (some (v, b, hh)) Γ os σ d K = wpR Γ os ⟨upd σ d v, b, hh⟩ K := by
  unfold stepE
  exact propext yld_some
@[simp] theorem stepE_none {d : Nat} : stepE none Γ os σ d K = False := by simp [stepE, yld]
@[simp] theorem iv_mv {d_ x} : wpR Γ (⟨some d_, none, .mv x⟩ :: os) ⟨σ, bx, h⟩ K ↔ stepE (evOp (den Γ) σ bx h d_ (.mv x)) Γ os σ d_ K := wpR_ev rfl
@[simp] theorem iv_nil {d_ x} : wpR Γ (⟨some d_, none, .nil x⟩ :: os) ⟨σ, bx, h⟩ K ↔ stepE (evOp (den Γ) σ bx h d_ (.nil x)) Γ os σ d_ K := wpR_ev rfl
@[simp] theorem iv_pick {d_ c a b} : wpR Γ (⟨some d_, none, .pick c a b⟩ :: os) ⟨σ, bx, h⟩ K ↔ stepE (evOp (den Γ) σ bx h d_ (.pick c a b)) Γ os σ d_ K := wpR_ev rfl
@[simp] theorem iv_alloc {d_ z} : wpR Γ (⟨some d_, none, .alloc z⟩ :: os) ⟨σ, bx, h⟩ K ↔ stepE (evOp (den Γ) σ bx h d_ (.alloc z)) Γ os σ d_ K := wpR_ev rfl
@[simp] theorem iv_box {d_ x} : wpR Γ (⟨some d_, none, .box x⟩ :: os) ⟨σ, bx, h⟩ K ↔ stepE (evOp (den Γ) σ bx h d_ (.box x)) Γ os σ d_ K := wpR_ev rfl
@[simp] theorem iv_build {d_ z p} : wpR Γ (⟨some d_, none, .build z p⟩ :: os) ⟨σ, bx, h⟩ K ↔ stepE (evOp (den Γ) σ bx h d_ (.build z p)) Γ os σ d_ K := wpR_ev rfl
@[simp] theorem iv_mkn {d_ a z n p} : wpR Γ (⟨some d_, none, .mkn a z n p⟩ :: os) ⟨σ, bx, h⟩ K ↔ stepE (evOp (den Γ) σ bx h d_ (.mkn a z n p)) Γ os σ d_ K := wpR_ev rfl
@[simp] theorem iv_mkl {d_ a z n p} : wpR Γ (⟨some d_, none, .mkl a z n p⟩ :: os) ⟨σ, bx, h⟩ K ↔ stepE (evOp (den Γ) σ bx h d_ (.mkl a z n p)) Γ os σ d_ K := wpR_ev rfl
@[simp] theorem iv_ldb {d_ a k x p q} : wpR Γ (⟨some d_, none, .ldb a k x p q⟩ :: os) ⟨σ, bx, h⟩ K ↔ stepE (evOp (den Γ) σ bx h d_ (.ldb a k x p q)) Γ os σ d_ K := wpR_ev rfl
@[simp] theorem iv_load {d_ a k x} : wpR Γ (⟨some d_, none, .load a k x⟩ :: os) ⟨σ, bx, h⟩ K ↔ stepE (evOp (den Γ) σ bx h d_ (.load a k x)) Γ os σ d_ K := wpR_ev rfl
@[simp] theorem iv_bin {d_ o x y} : wpR Γ (⟨some d_, none, .bin o x y⟩ :: os) ⟨σ, bx, h⟩ K ↔ stepE (evOp (den Γ) σ bx h d_ (.bin o x y)) Γ os σ d_ K := wpR_ev rfl
@[simp] theorem iv_binb {d_ n x y} : wpR Γ (⟨some d_, none, .binb n x y⟩ :: os) ⟨σ, bx, h⟩ K ↔ stepE (evOp (den Γ) σ bx h d_ (.binb n x y)) Γ os σ d_ K := wpR_ev rfl
@[simp] theorem iv_eqa {d_ k n x y} : wpR Γ (⟨some d_, none, .eqa k n x y⟩ :: os) ⟨σ, bx, h⟩ K ↔ stepE (evOp (den Γ) σ bx h d_ (.eqa k n x y)) Γ os σ d_ K := wpR_ev rfl
@[simp] theorem iv_un {d_ o x} : wpR Γ (⟨some d_, none, .un o x⟩ :: os) ⟨σ, bx, h⟩ K ↔ stepE (evOp (den Γ) σ bx h d_ (.un o x)) Γ os σ d_ K := wpR_ev rfl
@[simp] theorem iv_cvi {d_ k x} : wpR Γ (⟨some d_, none, .cvi k x⟩ :: os) ⟨σ, bx, h⟩ K ↔ stepE (evOp (den Γ) σ bx h d_ (.cvi k x)) Γ os σ d_ K := wpR_ev rfl
@[simp] theorem iv_cvb {d_ x} : wpR Γ (⟨some d_, none, .cvb x⟩ :: os) ⟨σ, bx, h⟩ K ↔ stepE (evOp (den Γ) σ bx h d_ (.cvb x)) Γ os σ d_ K := wpR_ev rfl
@[simp] theorem iv_cvs {d_ x} : wpR Γ (⟨some d_, none, .cvs x⟩ :: os) ⟨σ, bx, h⟩ K ↔ stepE (evOp (den Γ) σ bx h d_ (.cvs x)) Γ os σ d_ K := wpR_ev rfl
@[simp] theorem iv_mks {d_ a z n} : wpR Γ (⟨some d_, none, .mks a z n⟩ :: os) ⟨σ, bx, h⟩ K ↔ stepE (evOp (den Γ) σ bx h d_ (.mks a z n)) Γ os σ d_ K := wpR_ev rfl
@[simp] theorem iv_slc {d_ a x l m} : wpR Γ (⟨some d_, none, .slc a x l m⟩ :: os) ⟨σ, bx, h⟩ K ↔ stepE (evOp (den Γ) σ bx h d_ (.slc a x l m)) Γ os σ d_ K := wpR_ev rfl
@[simp] theorem iv_fld {d_ f x} : wpR Γ (⟨some d_, none, .fld f x⟩ :: os) ⟨σ, bx, h⟩ K ↔ stepE (evOp (den Γ) σ bx h d_ (.fld f x)) Γ os σ d_ K := wpR_ev rfl
@[simp] theorem iv_part {d_ a f k x} : wpR Γ (⟨some d_, none, .part a f k x⟩ :: os) ⟨σ, bx, h⟩ K ↔ stepE (evOp (den Γ) σ bx h d_ (.part a f k x)) Γ os σ d_ K := wpR_ev rfl
@[simp] theorem iv_ixa {d_ a x i} : wpR Γ (⟨some d_, none, .ixa a x i⟩ :: os) ⟨σ, bx, h⟩ K ↔ stepE (evOp (den Γ) σ bx h d_ (.ixa a x i)) Γ os σ d_ K := wpR_ev rfl
@[simp] theorem iv_ixs {d_ x i} : wpR Γ (⟨some d_, none, .ixs x i⟩ :: os) ⟨σ, bx, h⟩ K ↔ stepE (evOp (den Γ) σ bx h d_ (.ixs x i)) Γ os σ d_ K := wpR_ev rfl
@[simp] theorem iv_ext {d_ x i} : wpR Γ (⟨some d_, none, .ext x i⟩ :: os) ⟨σ, bx, h⟩ K ↔ stepE (evOp (den Γ) σ bx h d_ (.ext x i)) Γ os σ d_ K := wpR_ev rfl
@[simp] theorem iv_len {d_ x} : wpR Γ (⟨some d_, none, .len x⟩ :: os) ⟨σ, bx, h⟩ K ↔ stepE (evOp (den Γ) σ bx h d_ (.len x)) Γ os σ d_ K := wpR_ev rfl
@[simp] theorem iv_lens {d_ x} : wpR Γ (⟨some d_, none, .lens x⟩ :: os) ⟨σ, bx, h⟩ K ↔ stepE (evOp (den Γ) σ bx h d_ (.lens x)) Γ os σ d_ K := wpR_ev rfl
@[simp] theorem iv_app {d_ a m x y} : wpR Γ (⟨some d_, none, .app a m x y⟩ :: os) ⟨σ, bx, h⟩ K ↔ stepE (evOp (den Γ) σ bx h d_ (.app a m x y)) Γ os σ d_ K := wpR_ev rfl
@[simp] theorem iv_max {d_ x y} : wpR Γ (⟨some d_, none, .max x y⟩ :: os) ⟨σ, bx, h⟩ K ↔ stepE (evOp (den Γ) σ bx h d_ (.max x y)) Γ os σ d_ K := wpR_ev rfl
@[simp] theorem iv_callp {d_ f n a} : wpR Γ (⟨some d_, none, .callp f n a⟩ :: os) ⟨σ, bx, h⟩ K ↔ stepE (evOp (den Γ) σ bx h d_ (.callp f n a)) Γ os σ d_ K := wpR_ev rfl
@[simp] theorem iv_call {d_ f n a} : wpR Γ (⟨some d_, none, .call f n a⟩ :: os) ⟨σ, bx, h⟩ K ↔ stepE (evOp (den Γ) σ bx h d_ (.call f n a)) Γ os σ d_ K := wpR_ev rfl
@[simp] theorem iv_calls {d_ f n a} : wpR Γ (⟨some d_, none, .calls f n a⟩ :: os) ⟨σ, bx, h⟩ K ↔ stepE (evOp (den Γ) σ bx h d_ (.calls f n a)) Γ os σ d_ K := wpR_ev rfl
/-! Operations. -/
def condQ (v : SV) (A B : Prop) : Prop := match v with
  | .c (.v (.bool b)) => if b = true then A else B
  | _ => False
theorem wp_condQ {c : Opd} {x y : AC} : wp Γ nb (.cond c x y) s Q ↔ condQ (c.ev s.σ) (wp Γ nb x s Q) (wp Γ nb y s Q) := by
  unfold wp condQ
  simp only [drun]
  split
  · rename_i b hb
    simp only [hb]
    cases b <;> simp
  · rename_i hne
    split
    · rename_i b hb; exact absurd hb (hne b)
    · simp
def condS (v : SV) (Γ : Nat → Option AF) (nb : Nat) (x y : AC) (s : St) (Q : X → St → Prop) : Prop := condQ v (wp Γ nb x s Q) (wp Γ nb y s Q)
@[simp] theorem condS_b {b : Bool} {x y : AC} : condS (.c (.v (.bool b))) Γ nb x y s Q = if b = true then wp Γ nb x s Q else wp Γ nb y s Q := rfl
@[simp] theorem wp_condS {c : Opd} {x y : AC} : wp Γ nb (.cond c x y) s Q ↔ condS (c.ev s.σ) Γ nb x y s Q := wp_condQ
def guardQ (v : SV) (b : Bool) (A B : Prop) : Prop := match v with
  | .c (.v x) => if x.isB b = true then A else B
  | .t [] => B
  | _ => False
theorem guardQ_b {x b : Bool} {A B : Prop} : guardQ (.c (.v (.bool x))) b A B = if x = b then A else B := by simp [guardQ, Go.Value.isB]
theorem guardQ_t {b : Bool} {A B : Prop} : guardQ (.t []) b A B = B := rfl
theorem wpR_guardQ {d : Nat} {op : Op} {g : Nat} {b : Bool} : wpR Γ (⟨some d, some (g, b), op⟩ :: os) ⟨σ, bx, h⟩ K ↔ guardQ (σ g) b (wpR Γ (⟨some d, none, op⟩ :: os) ⟨σ, bx, h⟩ K) (wpR Γ os ⟨upd σ d (.t []), bx, h⟩ K) := by
  rw [wpR_cons, wpR_cons]
  simp only [execG, guardQ]
  cases hg : σ g with
  | c t =>
    cases t with
    | v x =>
      simp only
      split
      · rfl
      · constructor
        · rintro ⟨s1, h1, h2⟩; obtain rfl := Option.some.inj h1; exact h2
        · intro h; exact ⟨_, rfl, h⟩
    | _ => simp
  | t vs =>
    cases vs with
    | nil =>
      simp only
      constructor
      · rintro ⟨s1, h1, h2⟩; obtain rfl := Option.some.inj h1; exact h2
      · intro h; exact ⟨_, rfl, h⟩
    | cons _ _ => simp
  | _ => simp
def guardS (v : SV) (b : Bool) (Γ : Nat → Option AF) (d : Nat) (op : Op) (os : List Oper) (σ : Nat → SV) (bx : BX) (h : Heap) (K : St → Prop) : Prop :=
  guardQ v b (wpR Γ (⟨some d, none, op⟩ :: os) ⟨σ, bx, h⟩ K) (wpR Γ os ⟨upd σ d (.t []), bx, h⟩ K)
@[simp] theorem guardS_b {x b : Bool} {d : Nat} {op : Op} : guardS (.c (.v (.bool x))) b Γ d op os σ bx h K = if x = b then wpR Γ (⟨some d, none, op⟩ :: os) ⟨σ, bx, h⟩ K else wpR Γ os ⟨upd σ d (.t []), bx, h⟩ K := by
  unfold guardS
  exact guardQ_b
@[simp] theorem guardS_t {b : Bool} {d : Nat} {op : Op} : guardS (.t []) b Γ d op os σ bx h K = wpR Γ os ⟨upd σ d (.t []), bx, h⟩ K := rfl
@[simp] theorem wpR_guardS {d : Nat} {op : Op} {g : Nat} {b : Bool} : wpR Γ (⟨some d, some (g, b), op⟩ :: os) ⟨σ, bx, h⟩ K ↔ guardS (σ g) b Γ d op os σ bx h K := wpR_guardQ
theorem yld_none {K : SV → BX → Heap → Prop} : yld none K = False := by simp [yld]
/-- Operations that yield nothing. -/
def eff (r : Option St) (K : St → Prop) : Prop := ∃ s, r = some s ∧ K s
def effS (r : Option St) (Γ : Nat → Option AF) (os : List Oper) (K : St → Prop) : Prop := eff r fun s1 => wpR Γ os s1 K
@[simp] theorem effS_some {s : St} : effS (some s) Γ os K = wpR Γ os s K := by simp [effS, eff]
@[simp] theorem effS_none : effS none Γ os K = False := by simp [effS, eff]
@[simp] theorem wpR_stb {k : Nat} {fr : Bool} {a : Nat} {x : Opd} : wpR Γ (⟨none, none, .stb k fr a x⟩ :: os) s K ↔ effS (exec (den Γ) ⟨none, none, .stb k fr a x⟩ s) Γ os K := wpR_cons
@[simp] theorem wpR_store {k : Nat} {a x : Opd} : wpR Γ (⟨none, none, .store k a x⟩ :: os) s K ↔ effS (exec (den Γ) ⟨none, none, .store k a x⟩ s) Γ os K := wpR_cons
@[simp] theorem wpR_cpy {d k : Nat} {a x : Opd} : wpR Γ (⟨some d, none, .cpy k a x⟩ :: os) s K ↔ effS (exec (den Γ) ⟨some d, none, .cpy k a x⟩ s) Γ os K := wpR_cons
@[simp] theorem wpR_calll {d f n : Nat} {as : List Opd} : wpR Γ (⟨some d, none, .calll f n as⟩ :: os) s K ↔ effS (exec (den Γ) ⟨some d, none, .calll f n as⟩ s) Γ os K := wpR_cons
@[simp] theorem agg_t (cs : List SV) : agg true cs = some (.a cs) := rfl
@[simp] theorem agg_f (s : SV) : agg false [s] = some s := rfl
/-! Scalars. -/
@[simp] theorem bin_lss (a b : Int) : abin .lss (.int .i64 a) (.int .i64 b) = some (.bool (decide (a < b))) := by simp [abin, Go.binOp, Op.intCmp, pure, isOc]
@[simp] theorem bin_leq (a b : Int) : abin .leq (.int .i64 a) (.int .i64 b) = some (.bool (decide (a ≤ b))) := by simp [abin, Go.binOp, Op.intCmp, pure, isOc]
@[simp] theorem bin_gtr (a b : Int) : abin .gtr (.int .i64 a) (.int .i64 b) = some (.bool (decide (b < a))) := by simp [abin, Go.binOp, Op.intCmp, pure, isOc]
@[simp] theorem bin_geq (a b : Int) : abin .geq (.int .i64 a) (.int .i64 b) = some (.bool (decide (b ≤ a))) := by simp [abin, Go.binOp, Op.intCmp, pure, isOc]
theorem beqi (a b : Int) : (a == b) = decide (a = b) := by rw [Bool.eq_iff_iff]; simp
@[simp] theorem bin_eql (k : IntKind) (a b : Int) : abin .eql (.int k a) (.int k b) = some (.bool (decide (a = b))) := by simp [abin, Go.binOp, Op.intCmp, pure, isOc, beqi]
@[simp] theorem bin_neq (k : IntKind) (a b : Int) : abin .neq (.int k a) (.int k b) = some (.bool (!decide (a = b))) := by simp [abin, Go.binOp, Op.intCmp, pure, isOc, bne, beqi]
@[simp] theorem bin_add (a b : Int) : abin .add (.int .i64 a) (.int .i64 b) = some (.int .i64 (IntKind.i64.wrap (a + b))) := by simp [abin, Go.binOp, Op.intArith, pure, isOc]
@[simp] theorem bin_sub (a b : Int) : abin .sub (.int .i64 a) (.int .i64 b) = some (.int .i64 (IntKind.i64.wrap (a - b))) := by simp [abin, Go.binOp, Op.intArith, pure, isOc]
@[simp] theorem bin_mul (a b : Int) : abin .mul (.int .i64 a) (.int .i64 b) = some (.int .i64 (IntKind.i64.wrap (a * b))) := by simp [abin, Go.binOp, Op.intArith, pure, isOc]
theorem bytes_eq (a b : ByteArray) : (a.toList == b.toList) = decide (a = b) := by
  rw [Bool.eq_iff_iff]
  simp only [beq_iff_eq, decide_eq_true_eq, Go.ByteArray.toList_eq]
  exact ⟨fun h => by cases a; cases b; rename_i x y; have : x = y := by simpa using congrArg List.toArray h
                     rw [this], fun h => by rw [h]⟩
@[simp] theorem bin_seq (a b : ByteArray) : abin .eql (.string a) (.string b) = some (.bool (decide (a = b))) := by simp [abin, Go.binOp, Op.stringOp, pure, isOc, ← bytes_eq]
@[simp] theorem bin_sne (a b : ByteArray) : abin .neq (.string a) (.string b) = some (.bool (!decide (a = b))) := by simp [abin, Go.binOp, Op.stringOp, pure, isOc, ← bytes_eq]
@[simp] theorem un_not (a : Bool) : aun .not (.bool a) = some (.bool !a) := rfl
end
end AM

namespace AM
open Go
/-! ### Loop heads -/
def cbx (boxes : List (Option (List SV))) (lent : Nat → Option (List SV)) : BX := fun id => if isLent id = true then lent id.2 else if id.2 = CAN then (boxes[id.1]?).join else none
def ch (lists : List (Option T)) (lent : Nat → Option T) : Heap := fun id => if isLent id = true then lent id.2 else if id.2 = CAN then (lists[id.1]?).join else none
def cst (σ : Nat → SV) (boxes : List (Option (List SV))) (lentB : Nat → Option (List SV)) (lists : List (Option T)) (lentH : Nat → Option T) : St := ⟨σ, cbx boxes lentB, ch lists lentH⟩
theorem oldId_lent {ids : List Id} {id : Id} (h : isLent id = true) : oldId ids id = some id := by simp [oldId, h]
def lentOf (h : Heap) : Nat → Option T := fun k => if k < CAN then h (0, k) else none
def lentBx (ls bs : List Id) (bx : BX) : Nat → Option (List SV) := fun k => if k < CAN then (bx (0, k)).map (renL ls bs) else none
theorem canon_eq (nb : Nat) (live : List Nat) (s : St) : canon nb live s =
    (let bs := dedup (bxIL (live.map s.σ))
     let ls := dedup (lsIL (live.map s.σ) ++ lsIL (cellsOf s.bx (bs ++ lentB nb)))
     cst (setAll (fun k => (s.σ k).ren ls bs) live) (bs.map fun j => (s.bx j).map (renL ls bs)) (lentBx ls bs s.bx) (ls.map s.h) (lentOf s.h)) := by
  simp only [canon, cst]
  congr 1
  · funext id
    unfold cbx
    by_cases hl : isLent id = true
    · obtain ⟨a, b⟩ := id
      simp only [oldId_lent hl, hl, if_true]
      simp [isLent] at hl
      obtain ⟨rfl, hl⟩ := hl
      simp [hl, lentBx]
    · simp only [oldId, hl]
      by_cases hc : id.2 = CAN
      · simp only [hc, if_true, Bool.false_eq_true, if_false, List.getElem?_map]
        cases (dedup (bxIL (live.map s.σ)))[id.1]? <;> rfl
      · simp [hc]
  · funext id
    unfold ch
    by_cases hl : isLent id = true
    · obtain ⟨a, b⟩ := id
      simp only [oldId_lent hl, hl, if_true]
      simp [isLent] at hl
      obtain ⟨rfl, hl⟩ := hl
      simp [hl, lentOf]
    · simp only [oldId, hl]
      by_cases hc : id.2 = CAN
      · simp only [hc, if_true, Bool.false_eq_true, if_false, List.getElem?_map]
        cases (dedup (lsIL (live.map s.σ) ++ lsIL (cellsOf s.bx (dedup (bxIL (live.map s.σ)) ++ lentB nb))))[id.1]? <;> rfl
      · simp [hc]
theorem ch_ext {a : List (Option T)} {b b' : Nat → Option T} (h : ∀ k, k < CAN → b k = b' k) : ch a b = ch a b' := by
  funext ⟨i, j⟩
  unfold ch
  by_cases hl : isLent (i, j) = true
  · simp only [hl, if_true]
    simp [isLent] at hl
    exact h j hl.2
  · simp [hl]
theorem cbx_ext {a : List (Option (List SV))} {b b' : Nat → Option (List SV)} (h : ∀ k, k < CAN → b k = b' k) : cbx a b = cbx a b' := by
  funext ⟨i, j⟩
  unfold cbx
  by_cases hl : isLent (i, j) = true
  · simp only [hl, if_true]
    simp [isLent] at hl
    exact h j hl.2
  · simp [hl]
theorem ch_at {a : List (Option T)} {b : Nat → Option T} {k : Nat} (h : k < CAN) : ch a b (0, k) = b k := by simp [ch, isLent, h]
theorem cbx_at {a : List (Option (List SV))} {b : Nat → Option (List SV)} {k : Nat} (h : k < CAN) : cbx a b (0, k) = b k := by simp [cbx, isLent, h]
section
variable {a a' : List (Option T)} {b : Nat → Option T} {h : Heap} {c c' : List (Option (List SV))} {e : Nat → Option (List SV)} {ls bs : List Id} {bx : BX}
@[simp] theorem ch_l_ch : ch a (lentOf (ch a' b)) = ch a b := ch_ext fun k hk => by simp [lentOf, hk, ch_at hk]
@[simp] theorem ch_l_none : ch a (lentOf fun _ => none) = ch a fun _ => none := ch_ext fun k hk => by simp [lentOf]
@[simp] theorem ch_l_put {i j : Nat} {p : Path} {t : T} : ch a (lentOf (hput h (i, j) p t)) = if i = 0 ∧ j < 1000000 then ch a (fun k => if k = j then (h (0, j)).map (·.set p t) else lentOf h k) else ch a (lentOf h) := by
  split
  · rename_i hl
    refine ch_ext fun k hk => ?_
    simp only [lentOf, hk, if_true, hput, hl.1, Prod.mk.injEq, true_and]
  · rename_i hl
    refine ch_ext fun k hk => ?_
    have : ((0, k) : Id) ≠ (i, j) := fun e => hl (by injection e with e1 e2; exact ⟨e1.symm, e2 ▸ hk⟩)
    simp only [lentOf, hk, if_true, hput, this, if_false]
@[simp] theorem ch_l_new {i j : Nat} {t : T} (hi : i ≠ 0) : ch a (lentOf (hnew h (i, j) t)) = ch a (lentOf h) := by
  refine ch_ext fun k hk => ?_
  have : ((0, k) : Id) ≠ (i, j) := fun e => hi (by injection e with e1; exact e1.symm)
  simp only [lentOf, hk, if_true, hnew, this, if_false]
@[simp] theorem ch_l_if {g : Nat → Option T} {j : Nat} {x : Option T} : ch a (fun k => if k = j then x else lentOf (ch a' g) k) = ch a (fun k => if k = j then x else g k) := ch_ext fun k hk => by simp [lentOf, hk, ch_at hk]
@[simp] theorem cbx_l_cbx : cbx c (lentBx ls bs (cbx c' e)) = cbx c (fun k => (e k).map (renL ls bs)) := cbx_ext fun k hk => by simp [lentBx, hk, cbx_at hk]
@[simp] theorem cbx_l_map {F : List SV → List SV} : cbx c (lentBx ls bs fun j => Option.map F (cbx c' e j)) = cbx c (fun k => ((e k).map F).map (renL ls bs)) := cbx_ext fun k hk => by simp [lentBx, hk, cbx_at hk]
@[simp] theorem cbx_l_gen (h : ∀ k, bx (0, k) = none) : cbx c (lentBx ls bs bx) = cbx c fun _ => none := cbx_ext fun k hk => by simp [lentBx, h]
@[simp] theorem cbx_l_none : cbx c (lentBx ls bs fun _ => none) = cbx c fun _ => none := cbx_ext fun k hk => by simp [lentBx]
@[simp] theorem cbx_l_new {i j : Nat} {t : List SV} (hi : i ≠ 0) : cbx c (lentBx ls bs (bnew bx (i, j) t)) = cbx c (lentBx ls bs bx) := by
  refine cbx_ext fun k hk => ?_
  have : ((0, k) : Id) ≠ (i, j) := fun e => hi (by injection e with e1; exact e1.symm)
  simp only [lentBx, hk, if_true, bnew, this, if_false]
end
/-- A loop, by a measure. -/
theorem loop_ind {Γ : Nat → Option AF} {nb : Nat} {live : List Nat} {b : AC} {Q : X → St → Prop} {ι : Type} (S : ι → St) (m : ι → Nat) (P : ι → Prop)
    (hstep : ∀ i, P i → (∀ j, m j < m i → P j → ∀ s, canon nb live s = S j → iwp Γ nb b live s Q) → wp Γ nb b (S i) (loopQ Γ nb b live Q)) : ∀ i, P i → ∀ s, canon nb live s = S i → iwp Γ nb b live s Q := by
  have gen : ∀ k i, m i = k → P i → ∀ s, canon nb live s = S i → iwp Γ nb b live s Q := by
    intro k
    induction k using Nat.strongRecOn with
    | _ k ih =>
      rintro i rfl hP s hs
      rw [iwp_step, hs]
      exact hstep i hP fun j hj hPj s hs => ih (m j) hj j rfl hPj s hs
  exact fun i => gen (m i) i rfl
@[simp] theorem cst_σ {σ : Nat → SV} {a b c d} : (cst σ a b c d).σ = σ := rfl
theorem cst_mk {σ : Nat → SV} {a b c d} : cst σ a b c d = ⟨σ, cbx a b, ch c d⟩ := rfl
theorem CAN_eq : CAN = 1000000 := rfl
theorem isLent_iff {i j : Nat} : isLent (i, j) = true ↔ i = 0 ∧ j < 1000000 := by
  show ((i == 0) && decide (j < 1000000)) = true ↔ _
  simp
@[simp] theorem cbx_get {a : List (Option (List SV))} {b} {i j : Nat} : cbx a b (i, j) = if i = 0 ∧ j < 1000000 then b j else if j = 1000000 then (a[i]?).join else none := by
  unfold cbx
  by_cases h1 : i = 0 ∧ j < 1000000
  · rw [if_pos (isLent_iff.2 h1), if_pos h1]
  · rw [if_neg (fun h => h1 (isLent_iff.1 h)), if_neg h1]
    by_cases h2 : j = 1000000
    · rw [if_pos (show ((i, j) : Id).2 = CAN from h2), if_pos h2]
    · rw [if_neg (show ¬ ((i, j) : Id).2 = CAN from h2), if_neg h2]
@[simp] theorem ch_get {a : List (Option T)} {b} {i j : Nat} : ch a b (i, j) = if i = 0 ∧ j < 1000000 then b j else if j = 1000000 then (a[i]?).join else none := by
  unfold ch
  by_cases h1 : i = 0 ∧ j < 1000000
  · rw [if_pos (isLent_iff.2 h1), if_pos h1]
  · rw [if_neg (fun h => h1 (isLent_iff.1 h)), if_neg h1]
    by_cases h2 : j = 1000000
    · rw [if_pos (show ((i, j) : Id).2 = CAN from h2), if_pos h2]
    · rw [if_neg (show ¬ ((i, j) : Id).2 = CAN from h2), if_neg h2]
/-! AMATTR -/
section
variable {Γ : Nat → Option AF} {σ : Nat → SV} {bx : BX} {h : Heap} {d f n : Nat} {args : List Opd}
def pick1 (ss : List SV) : SV := match ss with | [s] => s | _ => .t ss
@[simp] theorem pick1_1 (s : SV) : pick1 [s] = s := rfl
@[simp] theorem pick1_2 (s s' : SV) (l : List SV) : pick1 (s :: s' :: l) = .t (s :: s' :: l) := rfl
@[simp] theorem pick1_0 : pick1 [] = .t [] := rfl
theorem pick1_eq : ∀ l : List SV, (match l with | [s] => s | ss => SV.t ss) = pick1 l
  | [] => rfl
  | [_] => rfl
  | _ :: _ :: _ => rfl
theorem den_ret {α : Type} (as : List SV) (F : List V → Option α) : (match den Γ f as (fun _ => none) [] with | some (vs, _, _) => F vs | none => none) = match ret Γ f as with | some vs => F vs | none => none := by
  unfold ret
  cases den Γ f as (fun _ => none) [] <;> rfl
@[simp] theorem e_calls : evOp (den Γ) σ bx h d (.calls f n args) = match borAs h (args.map (·.ev σ)) with
    | some as => (match ret Γ f as with
      | some vs => if vs.length = n ∧ scalVs vs = true then some (pick1 (vs.map scalS), bx, h) else none
      | none => none)
    | none => none := by
  simp only [evOp, ret]
  cases borAs h (args.map (·.ev σ)) with
  | none => rfl
  | some as =>
    simp only
    cases den Γ f as (fun _ => none) [] with
    | none => rfl
    | some r =>
      simp only [Option.map_some]
      split
      · congr 2
        exact pick1_eq _
      · rfl
@[simp] theorem e_call : evOp (den Γ) σ bx h d (.call f n args) = match borAs h (args.map (·.ev σ)) with
    | some as => (match ret Γ f as with
      | some vs => if vs.length = n ∧ ownVs vs = true then (match giveVs h (d + 1) 0 vs with | some (ss, h1) => some (pick1 ss, bx, h1) | none => none) else none
      | none => none)
    | none => none := by
  simp only [evOp, ret]
  cases borAs h (args.map (·.ev σ)) with
  | none => rfl
  | some as =>
    simp only
    cases den Γ f as (fun _ => none) [] with
    | none => rfl
    | some r =>
      simp only [Option.map_some]
      split
      · cases giveVs h (d + 1) 0 r.1 with
        | none => rfl
        | some q => simp only; congr 2
      · rfl
@[simp] theorem e_callp : evOp (den Γ) σ bx h d (.callp f n args) = match pureAs (args.map (·.ev σ)) with
    | some as => (match ret Γ f as with
      | some vs => if vs.length = n ∧ ownVs vs = true then (match giveVs h (d + 1) 0 vs with | some (ss, h1) => some (pick1 ss, bx, h1) | none => none) else none
      | none => none)
    | none => none := by
  simp only [evOp, ret]
  cases pureAs (args.map (·.ev σ)) with
  | none => rfl
  | some as =>
    simp only
    cases den Γ f as (fun _ => none) [] with
    | none => rfl
    | some r =>
      simp only [Option.map_some]
      split
      · cases giveVs h (d + 1) 0 r.1 with
        | none => rfl
        | some q => simp only; congr 2
      · rfl
end
attribute [simp] evOp.eq_1 evOp.eq_2 evOp.eq_3 evOp.eq_4 evOp.eq_5 evOp.eq_6 evOp.eq_7 evOp.eq_8 evOp.eq_9 evOp.eq_10 evOp.eq_13 evOp.eq_14 evOp.eq_15 evOp.eq_16 evOp.eq_17 evOp.eq_18 evOp.eq_19 evOp.eq_21 evOp.eq_22 evOp.eq_23 evOp.eq_24 evOp.eq_25 evOp.eq_26 evOp.eq_27 evOp.eq_28 evOp.eq_29 evOp.eq_30 evOp.eq_31
attribute [simp] exec cellsS one getRes mvV mv1 mvL mvC slen intOf ldrow svL sv1 borAs borA borL bor1 sview scalS giveVs giveV giveL give1 SV.kill killL partsV fillS fillT rowsV rowsN unA unC unCs pureAs pureA appSrc evOp.x3 ointOf T.fz fzL fzLL T.own ownL ownLL
theorem setAll_nil (σ : Nat → SV) : setAll σ [] = fun _ => .u := rfl
theorem setAll_cons (σ : Nat → SV) (k : Nat) (ks : List Nat) : setAll σ (k :: ks) = upd (setAll σ ks) k (σ k) := rfl
theorem isLent_eq (i j : Nat) : isLent (i, j) = (i == 0 && decide (j < 1000000)) := rfl
theorem newId_eq (ids : List Id) (id : Id) : newId ids id = if isLent id = true then id else (ids.idxOf id, 1000000) := rfl
attribute [simp] canon_eq cst_mk dedup bxIL lsIL setAll_nil setAll_cons SV.ren renL SV.lsI SV.bxI lentB cellsOf newId_eq isLent_eq
def allScal (ts : List T) : Bool := ts.all T.scal
@[simp] theorem scalVs_nil : scalVs [] = true := rfl
@[simp] theorem scalVs_a (ts : List T) (vs : List V) : scalVs (.a ts :: vs) = (allScal ts && scalVs vs) := rfl
@[simp] theorem scalVs_o (t : T) (vs : List V) : scalVs (.o t :: vs) = (t.scal && scalVs vs) := rfl
@[simp] theorem allScal_nil : allScal [] = true := rfl
@[simp] theorem allScal_cons (t : T) (ts : List T) : allScal (t :: ts) = (t.scal && allScal ts) := rfl
@[simp] theorem scal_v (x : Value) : (T.v x).scal = true := rfl
@[simp] theorem scal_u : T.u.scal = true := rfl
@[simp] theorem ownVs_nil : ownVs [] = true := rfl
@[simp] theorem ownVs_a (ts : List T) (vs : List V) : ownVs (.a ts :: vs) = (ownL ts && ownVs vs) := rfl
@[simp] theorem ownVs_o (t : T) (vs : List V) : ownVs (.o t :: vs) = (t.own && ownVs vs) := rfl
/-! Numbers. -/
theorem wrap_id {a : Int} (h1 : -9223372036854775808 ≤ a) (h2 : a ≤ 9223372036854775807) : IntKind.i64.wrap a = a := by
  rw [IntKind.wrap_i64]
  omega
@[simp] theorem wrap_one : IntKind.i64.wrap 1 = 1 := wrap_id (by omega) (by omega)
@[simp] theorem wrap_zero : IntKind.i64.wrap 0 = 0 := wrap_id (by omega) (by omega)
theorem wrap_nat {i : Nat} (h : i ≤ 1000000000000) : IntKind.i64.wrap ((i : Int) + 1) = (i : Int) + 1 := wrap_id (by omega) (by omega)
end AM

namespace AM
open Go
def look (l : List (Nat × AF)) (f : Nat) : Option AF := (l.find? fun x => x.1 == f).map (·.2)
/-! ### Data -/
class Enc (α : Type) where
  sz : Nat
  cells : Bool → α → List T
  len : ∀ o x, (cells o x).length = sz
  fz : ∀ o x, fzL (cells o x) = cells false x
  own : ∀ x, ownL (cells true x) = true
  pos : 0 < sz
def tl {α : Type} [Enc α] (o : Bool) (xs : List α) : T := .l o (Enc.sz α) (xs.map (Enc.cells o))
/-- A list as an argument. -/
def al {α : Type} [Enc α] (xs : List α) : SV := .c (tl false xs)
def ai (n : Int) : SV := .c (.v (.int .i64 n))
def as (s : ByteArray) : SV := .c (.v (.string s))
def ab (b : Bool) : SV := .c (.v (.bool b))
/-- A struct as an argument. -/
def ag {α : Type} [Enc α] (x : α) : SV := .a ((Enc.cells false x).map .c)
/-! ### How much a tree holds -/
def valWt : Value → Nat
  | .string s => s.size + 1
  | _ => 1
mutual
def T.wt : T → Nat
  | .u => 1
  | .v x => valWt x
  | .l _ _ rows => wtLL rows + 1
def wtL : List T → Nat
  | [] => 0
  | t :: ts => t.wt + wtL ts
def wtLL : List (List T) → Nat
  | [] => 0
  | r :: rs => wtL r + wtLL rs
end
theorem wt_pos : ∀ t : T, 1 ≤ t.wt
  | .u => by simp [T.wt]
  | .v x => by cases x <;> simp [T.wt, valWt]
  | .l _ _ _ => by simp [T.wt]
section
variable {α : Type} [Enc α]
theorem row_wt (o : Bool) (x : α) : 1 ≤ wtL (Enc.cells o x) := by
  have hl := Enc.len o x
  have hp := Enc.pos (α := α)
  match he : Enc.cells o x, hl with
  | [], hl => simp at hl; omega
  | t :: ts, _ => have := wt_pos t; simp [wtL]; omega
theorem wt_len (o : Bool) : ∀ xs : List α, xs.length ≤ wtLL (xs.map (Enc.cells o))
  | [] => Nat.zero_le _
  | x :: xs => by
    have h := wt_len o xs
    have h2 := row_wt o x
    simp [wtLL]
    omega
/-- Not too great. -/
def sml (xs : List α) : Prop := wtLL (xs.map (Enc.cells false)) ≤ 1000000000
def sm (x : α) : Prop := wtL (Enc.cells false x) ≤ 1000000000
theorem sml_len {xs : List α} (h : sml xs) : xs.length ≤ 1000000000 := Nat.le_trans (wt_len false xs) h
theorem wt_get (o : Bool) : ∀ (xs : List α) {i : Nat} (h : i < xs.length), wtL (Enc.cells o xs[i]) ≤ wtLL (xs.map (Enc.cells o))
  | [], i, h => by simp at h
  | x :: xs, 0, h => by simp [wtLL]
  | x :: xs, i + 1, h => by
    have := wt_get o xs (i := i) (by simpa using h)
    simp [wtLL]
    omega
theorem sml_get {xs : List α} (h : sml xs) {i : Nat} (hi : i < xs.length) : sm xs[i] := Nat.le_trans (wt_get false xs hi) h
end
end AM

namespace AM
open Go Go.ChangeShapes Go.WideShapes Go.ChangeAt Go.RowKit

/-- Types of arguments. -/
inductive Ty where
  | bool | int (k : IntKind) | str | slice (e : Ty) | struct (fs : List Ty)
mutual
def Ty.cells : Ty → Nat
  | .struct fs => cellsL fs
  | _ => 1
def cellsL : List Ty → Nat
  | [] => 0
  | t :: ts => t.cells + cellsL ts
end
def fieldsTy (P : Program) (r : TypeId → Option Ty) : Nat → List Field → Option (List Ty)
  | _, [] => some []
  | off, f :: fs => match r f.type with
    | some τ => if f.offset = off ∧ P.cellsOf f.type = τ.cells then (fieldsTy P r (off + τ.cells) fs).map (τ :: ·) else none
    | none => none
def tyOf (P : Program) : Nat → TypeId → Option Ty
  | 0, _ => none
  | k + 1, t => match P.underlying t with
    | some .bool => some .bool
    | some (.int k) => some (.int k)
    | some .string => some .str
    | some (.slice e) => match tyOf P k e with
      | some τ => if P.cellsOf e = τ.cells ∧ 0 < τ.cells then some (.slice τ) else none
      | none => none
    | some (.struct fs) => match fieldsTy P (tyOf P k) 0 fs.toList with
      | some τs => if P.cellsOf t = cellsL τs then some (.struct τs) else none
      | none => none
    | _ => none
mutual
def Ty.mem : Ty → List T → Prop
  | .bool, ts => ∃ b, ts = [.v (.bool b)]
  | .int k, ts => ∃ n, ts = [.v (.int k n)] ∧ k.min ≤ n ∧ n ≤ k.max
  | .str, ts => ∃ s, ts = [.v (.string s)]
  | .slice e, ts => ∃ rows, ts = [.l false e.cells rows] ∧ ∀ r ∈ rows, e.mem r
  | .struct fs, ts => memL fs ts
def memL : List Ty → List T → Prop
  | [], ts => ts = []
  | τ :: τs, ts => ∃ a b, ts = a ++ b ∧ τ.mem a ∧ memL τs b
end
mutual
theorem mem_len : ∀ {τ : Ty} {ts : List T}, τ.mem ts → ts.length = τ.cells
  | .bool, ts, h => by simp only [Ty.mem] at h; obtain ⟨_, rfl⟩ := h; rfl
  | .int _, ts, h => by simp only [Ty.mem] at h; obtain ⟨_, rfl, _⟩ := h; rfl
  | .str, ts, h => by simp only [Ty.mem] at h; obtain ⟨_, rfl⟩ := h; rfl
  | .slice _, ts, h => by simp only [Ty.mem] at h; obtain ⟨_, rfl, _⟩ := h; rfl
  | .struct fs, ts, h => by simp only [Ty.mem] at h; simp only [Ty.cells]; exact memL_len h
theorem memL_len : ∀ {τs : List Ty} {ts : List T}, memL τs ts → ts.length = cellsL τs
  | [], ts, h => by simp only [memL] at h; subst h; rfl
  | τ :: τs, ts, h => by
    simp only [memL] at h
    obtain ⟨a, b, rfl, h1, h2⟩ := h
    simp only [List.length_append, cellsL, mem_len h1, memL_len h2]
end
theorem wtL_append : ∀ a b : List T, wtL (a ++ b) = wtL a + wtL b
  | [], b => by simp [wtL]
  | x :: a, b => by simp [wtL, wtL_append a b, Nat.add_assoc]
theorem wtLL_append : ∀ a b : List (List T), wtLL (a ++ b) = wtLL a + wtLL b
  | [], b => by simp [wtLL]
  | x :: a, b => by simp [wtLL, wtLL_append a b, Nat.add_assoc]
/-- The row's measure. -/
structure Bulk {H : Type} (B : DataW H → Nat) (BL : List (DataW H) → Nat) : Prop where
  str : ∀ l, B (.lit (.string l)) = l.length + 1
  slice : ∀ e s, B (.slice e s) = BL e + BL s + 1
  agg : ∀ p, B (.agg p) = BL p + 1
  one : ∀ d, 1 ≤ B d
  nil : BL [] = 0
  cons : ∀ d l, BL (d :: l) = B d + BL l
theorem Bulk.append {H : Type} {B : DataW H → Nat} {BL : List (DataW H) → Nat} (hB : Bulk B BL) : ∀ a b : List (DataW H), BL (a ++ b) = BL a + BL b
  | [], b => by simp [hB.nil]
  | x :: a, b => by simp [hB.cons, hB.append a b, Nat.add_assoc]

section
variable {H : Type} {enc : TypeId × Value → H} {P : Program} {w : World} {B : DataW H → Nat} {BL : List (DataW H) → Nat}

theorem cells?_get {a : Addr} {k : Nat} {vs : List Value} (h : w.cells? 0 a k = some vs) : vs.length = k ∧ ∀ (j : Nat) x, vs[j]? = some x → w.cell? (a.add j) = some x := by
  unfold World.cells? at h
  simp only [Nat.zero_le, if_true] at h
  have gen : ∀ (l : List Nat) (r : List Value), l.mapM (fun i => w.cell? (a.add i)) = some r → r.length = l.length ∧ ∀ (j : Nat) x, r[j]? = some x → ∃ i, l[j]? = some i ∧ w.cell? (a.add i) = some x := by
    intro l
    induction l with
    | nil => intro r hr; simp at hr; subst hr; exact ⟨rfl, by simp⟩
    | cons y l ih =>
      intro r hr
      rw [List.mapM_cons] at hr
      cases hy : w.cell? (a.add y) with
      | none => simp [hy] at hr
      | some v =>
        cases hl : l.mapM (fun i => w.cell? (a.add i)) with
        | none => simp [hy, hl] at hr
        | some r' =>
          simp [hy, hl] at hr
          subst hr
          obtain ⟨k1, k2⟩ := ih r' hl
          refine ⟨by simp [k1], fun j x hj => ?_⟩
          cases j with
          | zero => simp at hj; subst hj; exact ⟨y, rfl, hy⟩
          | succ j => simp at hj; simpa using k2 j x hj
  obtain ⟨h1, h2⟩ := gen _ _ h
  refine ⟨by simpa using h1, fun j x hj => ?_⟩
  obtain ⟨i, hi, hc⟩ := h2 j x hj
  have hlt : j < k := by
    have := (List.getElem?_eq_some_iff.1 hj).1
    simp at h1
    omega
  rw [List.getElem?_range hlt] at hi
  obtain rfl := Option.some.inj hi
  exact hc
theorem cell_spot {a : Addr} {x : Value} (h : w.cell? a = some x) : a.spot = none := by
  cases hs : a.spot with
  | none => rfl
  | some s =>
    simp only [World.cell?] at h
    split at h
    · simp [hs] at h
    · cases h
theorem add_at {a : Addr} (h : a.spot = none) (n : Nat) : a.add n = ⟨a.block, a.off + n, none⟩ := by
  cases a with
  | mk b o s => simp only at h; subst h; exact add_none b o n

/-- What a reading says of the cells. -/
def ReadOk (w : World) (B : DataW H → Nat) (τ : Ty) (cs : List Value) (d : DataW H) : Prop := ∃ ts, τ.mem ts ∧ CR w (old w) ts cs [] ∧ wtL ts ≤ B d

theorem rows_read {r : List Value → Option (DataW H × List MemPlace)} {τ : Ty} (hB : Bulk B BL) (hr : ∀ cs x, r cs = some x → ReadOk w B τ cs x.1) {a : Addr} (hk : 0 < τ.cells) :
    ∀ (len : Nat) (elems : List (DataW H × List MemPlace)), (List.range len).mapM (fun i => (w.cells? 0 (a.add (i * τ.cells)) τ.cells).bind r) = some elems →
    ∃ (rows : List (List T)) (ws : List Value), rows.length = len ∧ (∀ row ∈ rows, τ.mem row) ∧ CR w (old w) rows.flatten ws [] ∧ wtLL rows ≤ BL (elems.map (·.1)) ∧ (0 < len → a.spot = none ∧ a.block < w.heap.size) ∧
      ∀ (j : Nat) x, ws[j]? = some x → w.cell? ⟨a.block, a.off + j, none⟩ = some x
  | 0, elems, h => by
    simp at h
    subst h
    exact ⟨[], [], rfl, by simp, .nil, by simp [wtLL], fun h => absurd h (Nat.lt_irrefl 0), by simp⟩
  | len + 1, elems, h => by
    rw [List.range_succ, List.mapM_append] at h
    cases h1 : (List.range len).mapM (fun i => (w.cells? 0 (a.add (i * τ.cells)) τ.cells).bind r) with
    | none => simp [h1] at h
    | some e1 =>
      cases h2 : (w.cells? 0 (a.add (len * τ.cells)) τ.cells).bind r with
      | none => simp [h1, h2] at h
      | some x =>
        simp [h1, h2] at h
        subst h
        obtain ⟨rows, ws, q1, q2, q3, q4, q5, q6⟩ := rows_read hB hr hk len e1 h1
        obtain ⟨vs, hvs, hrx⟩ := Option.bind_eq_some_iff.1 h2
        obtain ⟨ts, m1, m2, m3⟩ := hr vs x hrx
        obtain ⟨l1, l2⟩ := cells?_get hvs
        have hlv : vs.length = τ.cells := l1
        have hsp : a.spot = none ∧ a.block < w.heap.size := by
          rcases Nat.eq_zero_or_pos len with h0 | h0
          · subst h0
            have hx0 : ∃ v, vs[0]? = some v := ⟨vs[0]'(by omega), by simp⟩
            obtain ⟨v, hv⟩ := hx0
            have hc := l2 0 v hv
            simp only [Nat.zero_mul] at hc
            have e0 : (a.add 0).add 0 = a := by simp [Addr.add]
            rw [e0] at hc
            exact ⟨cell_spot hc, cell_lt hc⟩
          · exact q5 h0
        have hws : ws.length = len * τ.cells := by
          rw [← q3.len, flatten_len (sz := τ.cells) (fun row hrow => mem_len (q2 row hrow)), q1]
        refine ⟨rows ++ [ts], ws ++ vs, by simp [q1], fun row hrow => ?_, ?_, ?_, fun _ => hsp, fun j y hj => ?_⟩
        · rcases List.mem_append.1 hrow with hrow | hrow
          · exact q2 row hrow
          · simp at hrow; subst hrow; exact m1
        · rw [List.flatten_append]
          have := q3.append m2
          simpa using this
        · rw [wtLL_append, List.map_append, hB.append]
          simp [wtLL, hB.cons, hB.nil]
          omega
        · rcases Nat.lt_or_ge j ws.length with hl | hl
          · rw [List.getElem?_append_left hl] at hj
            exact q6 j y hj
          · rw [List.getElem?_append_right hl] at hj
            have := l2 _ y hj
            rw [add_at hsp.1, add_none] at this
            rw [← this]
            congr 2
            omega

theorem fields_read {n : Nat} {rt : TypeId → Option Ty} (hB : Bulk B BL) (hr : ∀ t τ cs x, rt t = some τ → DataW.trod enc P w 0 (fun _ => true) true n t cs = some x → ReadOk w B τ cs x.1) {cs : List Value} :
    ∀ (fs : List Field) (off : Nat) (τs : List Ty) (xs : List (DataW H × List MemPlace)), fieldsTy P rt off fs = some τs → off + cellsL τs ≤ cs.length →
    fs.mapM (fun f => DataW.trod enc P w 0 (fun _ => true) true n f.type ((cs.drop f.offset).take (P.cellsOf f.type))) = some xs →
    ∃ ts, memL τs ts ∧ CR w (old w) ts ((cs.drop off).take (cellsL τs)) [] ∧ wtL ts ≤ BL (xs.map (·.1))
  | [], off, τs, xs, hf, hl, hx => by
    simp only [fieldsTy, Option.some.injEq] at hf
    subst hf
    simp at hx
    subst hx
    exact ⟨[], rfl, by simpa [cellsL] using CR.nil, by simp [wtL]⟩
  | f :: fs, off, τs, xs, hf, hl, hx => by
    simp only [fieldsTy] at hf
    split at hf
    · rename_i τ hτ
      split at hf
      · rename_i hc
        obtain ⟨rfl, hcells⟩ := hc
        obtain ⟨τs', hτs', rfl⟩ := Option.map_eq_some_iff.1 hf
        simp only [cellsL] at hl
        rw [List.mapM_cons] at hx
        rw [hcells] at hx
        cases h1 : DataW.trod enc P w 0 (fun _ => true) true n f.type ((cs.drop f.offset).take τ.cells) with
        | none => simp [h1] at hx
        | some x =>
          cases h2 : fs.mapM (fun f => DataW.trod enc P w 0 (fun _ => true) true n f.type ((cs.drop f.offset).take (P.cellsOf f.type))) with
          | none => simp [h1, h2] at hx
          | some xs' =>
            simp [h1, h2] at hx
            subst hx
            obtain ⟨ta, a1, a2, a3⟩ := hr _ τ _ x hτ h1
            obtain ⟨tb, b1, b2, b3⟩ := fields_read hB hr fs (f.offset + τ.cells) τs' xs' hτs' (by omega) h2
            refine ⟨ta ++ tb, ⟨ta, tb, rfl, a1, b1⟩, ?_, ?_⟩
            · have := a2.append b2
              simp only [List.append_nil] at this
              simp only [cellsL]
              rw [List.take_add, List.drop_drop]
              exact this
            · rw [wtL_append, List.map_cons, hB.cons]
              omega
      · cases hf
    · cases hf

theorem trod_read (hB : Bulk B BL) : ∀ (k n : Nat) (t : TypeId) (τ : Ty) (cs : List Value) (x : DataW H × List MemPlace), tyOf P k t = some τ → DataW.trod enc P w 0 (fun _ => true) true n t cs = some x → ReadOk w B τ cs x.1
  | 0, _, _, _, _, _, h, _ => by simp [tyOf] at h
  | k + 1, 0, _, _, _, _, _, h => by simp [DataW.trod] at h
  | k + 1, n + 1, t, τ, cs, x, hτ, hx => by
    have ih := fun t τ cs x h1 h2 => trod_read hB k n t τ cs x h1 h2
    rw [DataW.trod_step] at hx
    simp only [tyOf] at hτ
    split at hτ
    · rename_i hu
      obtain rfl := Option.some.inj hτ
      simp only [DataW.trodStep, hu] at hx
      split at hx <;> simp_all
      rename_i b
      exact ⟨[.v (.bool b)], ⟨b, rfl⟩, .v _ rfl .nil, by simp [wtL, T.wt, valWt]; exact hB.one _⟩
    · rename_i kd hu
      obtain rfl := Option.some.inj hτ
      simp only [DataW.trodStep, hu] at hx
      split at hx <;> simp_all
      rename_i m _
      obtain ⟨⟨rfl, hw⟩, rfl⟩ := hx
      simp only [Lit.wf, Bool.and_eq_true, decide_eq_true_eq] at hw
      exact ⟨[.v (.int _ m)], ⟨m, rfl, hw.1, hw.2⟩, .v _ rfl .nil, by simp [wtL, T.wt, valWt]; exact hB.one _⟩
    · rename_i hu
      obtain rfl := Option.some.inj hτ
      simp only [DataW.trodStep, hu] at hx
      split at hx <;> simp_all
      rename_i s
      obtain ⟨_, rfl⟩ := hx
      exact ⟨[.v (.string s)], ⟨s, rfl⟩, .v _ rfl .nil, by simp [wtL, T.wt, valWt, hB.str]⟩
    · rename_i e hu
      split at hτ
      · rename_i τ' hτ'
        split at hτ
        · rename_i hc
          obtain rfl := Option.some.inj hτ
          obtain ⟨hcells, hpos⟩ := hc
          simp only [DataW.trodStep, hu] at hx
          split at hx <;> try (simp_all; done)
          · rename_i heq
            injection heq with heq
            injection heq with heq
            obtain rfl := Option.some.inj hx
            exact ⟨[.l false τ'.cells []], ⟨[], rfl, by simp⟩, .imm0 .nil, by simp [wtL, T.wt, wtLL]; exact hB.one _⟩
          · rename_i e' a len cap heq
            injection heq with heq
            injection heq with heq
            subst heq
            split at hx
            · rename_i hcond
              obtain ⟨elems, hel, hx⟩ := Option.bind_eq_some_iff.1 hx
              obtain ⟨rest, hrest, rfl⟩ := Option.map_eq_some_iff.1 hx
              rw [hcells] at hel
              have hr : ∀ cs x, DataW.trod enc P w 0 (fun _ => true) true n e cs = some x → ReadOk w B τ' cs x.1 := fun cs x h => ih e τ' cs x hτ' h
              obtain ⟨rows, ws, q1, q2, q3, q4, q5, q6⟩ := rows_read hB hr hpos len elems hel
              clear hr ih
              refine ⟨[.l false τ'.cells rows], ⟨rows, rfl, q2⟩, ?_, ?_⟩
              · cases rows with
                | nil =>
                  simp at q1
                  subst q1
                  exact .imm0 .nil
                | cons r0 rows =>
                  obtain ⟨s1, s2⟩ := q5 (by rw [← q1]; simp)
                  have := CR.imm (F := old w) (ad := a) (cap := cap) s2 s1 (fun r hr => mem_len (q2 r hr)) (by rw [q1]; exact hcond.2.1) q6 q3 CR.nil
                  rw [q1] at this
                  exact this
              · simp [wtL, T.wt, hB.slice]
                omega
            · cases hx
        · cases hτ
      · cases hτ
    · rename_i fs hu
      split at hτ
      · rename_i τs hτs
        split at hτ
        · rename_i hc
          obtain rfl := Option.some.inj hτ
          simp only [DataW.trodStep, hu] at hx
          split at hx <;> try (simp_all; done)
          rename_i hlen
          obtain ⟨xs, hxs, rfl⟩ := Option.map_eq_some_iff.1 hx
          obtain ⟨ts, m1, m2, m3⟩ := fields_read hB (fun t τ cs x h1 h2 => ih t τ cs x h1 h2) fs.toList 0 τs xs hτs (by omega) hxs
          refine ⟨ts, m1, ?_, by simp only [hB.agg]; omega⟩
          rw [List.drop_zero, ← hc, ← hlen, List.take_length] at m2
          exact m2
        · cases hτ
      · cases hτ
    · cases hτ
end
end AM

namespace AM
open Go Go.ChangeShapes Go.WideShapes Go.ChangeAt Go.RowKit

/-- An argument, as a slot. -/
def ArgMem : Ty → SV → Prop
  | .struct fs, s => ∃ ts, s = .a (ts.map .c) ∧ (Ty.struct fs).mem ts
  | τ, s => ∃ t, s = .c t ∧ τ.mem [t]
def ArgsMem : List Ty → List SV → Prop
  | [], ss => ss = []
  | τ :: τs, ss => ∃ s r, ss = s :: r ∧ ArgMem τ s ∧ ArgsMem τs r
mutual
def SV.wt : SV → Nat
  | .c t => t.wt
  | .a cs => svsWt cs
  | .t cs => svsWt cs
  | _ => 0
def svsWt : List SV → Nat
  | [] => 0
  | s :: ss => s.wt + svsWt ss
end
theorem svsWt_c : ∀ ts : List T, svsWt (ts.map .c) = wtL ts
  | [] => rfl
  | t :: ts => by simp [svsWt, SV.wt, wtL, svsWt_c ts]
/-- The law answers true. -/
def LawTrue (Γ : Nat → Option AF) (f : Nat) (τs : List Ty) (most : Nat) : Prop :=
  ∀ args, ArgsMem τs args → svsWt args ≤ most → ∃ hc bs, den Γ f args (fun _ => none) [] = some ([.o (.v (.bool true))], hc, bs)

section
variable {H : Type} {enc : TypeId × Value → H} {P : Program} {W : World} {B : DataW H → Nat} {BL : List (DataW H) → Nat}

theorem arg_read (hB : Bulk B BL) {t : TypeId} {τ : Ty} {v : Value} {d : DataW H} {ps : List MemPlace} {base k : Nat} (hτ : tyOf P k t = some τ) (ho : Value.okWide P W .any base t v) (hd : DataW.Trod enc P W 0 (fun _ => true) true t v d ps) :
    ∃ s, ArgMem τ s ∧ SR W (old W) (bx0 []) (fun _ => none) gh0 s v ∧ s.wt ≤ B d := by
  obtain ⟨n, hn⟩ := hd
  obtain ⟨ts, m1, m2, m3⟩ := trod_read hB k n t τ _ _ hτ hn
  have one : ∀ {u1 : T}, ts = [u1] → v.cells.toList = [v] → ArgMem τ (.c u1) → ∃ s, ArgMem τ s ∧ SR W (old W) (bx0 []) (fun _ => none) gh0 s v ∧ s.wt ≤ B d := by
    rintro u1 rfl hv ha
    rw [hv] at m2
    exact ⟨.c u1, ha, by simpa [SR] using m2, by simpa [SV.wt, wtL] using m3⟩
  cases k with
  | zero => simp [tyOf] at hτ
  | succ k =>
  simp only [tyOf] at hτ
  split at hτ
  · rename_i hu
    obtain rfl := Option.some.inj hτ
    obtain ⟨b, rfl⟩ := okWide_bool hu ho
    have hm := m1
    simp only [Ty.mem] at m1
    obtain ⟨x, rfl⟩ := m1
    exact one rfl rfl ⟨_, rfl, hm⟩
  · rename_i kd hu
    obtain rfl := Option.some.inj hτ
    obtain ⟨b, rfl⟩ := okWide_int hu ho
    have hm := m1
    simp only [Ty.mem] at m1
    obtain ⟨x, rfl, _⟩ := m1
    exact one rfl rfl ⟨_, rfl, hm⟩
  · rename_i hu
    obtain rfl := Option.some.inj hτ
    obtain ⟨b, rfl⟩ := okWide_string hu ho
    have hm := m1
    simp only [Ty.mem] at m1
    obtain ⟨x, rfl⟩ := m1
    exact one rfl rfl ⟨_, rfl, hm⟩
  · rename_i e hu
    obtain ⟨a, len, cap, rfl⟩ := okWide_slice hu ho
    split at hτ
    · split at hτ
      · obtain rfl := Option.some.inj hτ
        have hm := m1
        simp only [Ty.mem] at m1
        obtain ⟨x, rfl, _⟩ := m1
        exact one rfl rfl ⟨_, rfl, hm⟩
      · cases hτ
    · cases hτ
  · rename_i fs hu
    obtain ⟨cs, rfl, _⟩ := okWide_struct hu ho
    split at hτ
    · split at hτ
      · obtain rfl := Option.some.inj hτ
        refine ⟨.a (ts.map .c), ⟨ts, rfl, m1⟩, ?_, by simp only [SV.wt, svsWt_c]; exact m3⟩
        have m2' : CR W (old W) ts cs.toList [] := m2
        simp only [SR]
        exact ⟨cs, rfl, m2'.oc, SRL.ofCR m2'⟩
      · cases hτ
    · cases hτ
  · cases hτ
theorem args_read (hB : Bulk B BL) {base k : Nat} : ∀ {ts : List TypeId} {τs : List Ty} {vs : List Value} {ds : List (DataW H)} {ps : List MemPlace}, ts.map (tyOf P k) = τs.map some → (∀ (j : Nat) t v, ts[j]? = some t → vs[j]? = some v → Value.okWide P W .any base t v) →
    DataW.TrodAll enc P W 0 (fun _ => true) true ts vs ds ps → ∃ ss, ArgsMem τs ss ∧ SRL W (old W) (bx0 []) (fun _ => none) gh0 ss vs ∧ svsWt ss ≤ BL ds
  | [], τs, [], [], _, hτ, _, _ => by
    cases τs with
    | nil => exact ⟨[], rfl, trivial, by simp [svsWt]⟩
    | cons _ _ => simp at hτ
  | t :: ts, τs, v :: vs, d :: ds, _, hτ, ho, ⟨p, q, h1, h2, _⟩ => by
    cases τs with
    | nil => simp at hτ
    | cons τ τs =>
      simp only [List.map_cons, List.cons.injEq] at hτ
      obtain ⟨s, a1, a2, a3⟩ := arg_read hB hτ.1 (ho 0 t v rfl rfl) h1
      obtain ⟨ss, b1, b2, b3⟩ := args_read hB hτ.2 (fun j t v hj hv => ho (j + 1) t v (by simpa using hj) (by simpa using hv)) h2
      exact ⟨s :: ss, ⟨s, ss, rfl, a1, b1⟩, ⟨a2, b2⟩, by simp only [svsWt, hB.cons]; omega⟩

theorem law_contract {Γ : Nat → Option AF} (hΓ : Comps P Γ) (hm : P.follows .mixedOrders = true) {f : FuncId} {fn : Func} {s : ChangeSpec} {τs : List Ty} {tb : TypeId} {most : Nat} (hlaw : LawTrue Γ f τs most) (hB : Bulk B BL)
    (hτ : fn.params.toList.map (tyOf P 20) = τs.map some) (hvars : s.vars = []) (hfn : ∀ ds : List (DataW H), ds.length = τs.length → s.fn H ds = { results := [.lit (.bool true)], args := ds })
    (hrt : fn.resultTypes = #[tb]) (htb : P.underlying tb = some .bool) (K : Kids P (· < P.types.size)) (full : ∀ t e, t < P.types.size → P.underlying t = some (.slice e) → 0 < P.cellsOf e) (hts : ∀ t ∈ fn.params.toList, t < P.types.size)
    (base : Nat) (args : Array Value) (ds gs : List (DataW H)) (before : List MemPlace) (hval : ∀ (j : Nat) t v, fn.params[j]? = some t → args[j]? = some v → Value.okWide P W .any base t v)
    (hW : DataW.Whole enc P fn.params.toList s.vars false W args.toList ds gs before) (hk : BL (ds ++ gs) ≤ most) :
    Calls P f args W fun e W' => ∃ v, e = .returned v ∧ s.post enc P fn false true false false W args v W' := by
  have hW' := hW
  obtain ⟨p, q, hA, hV, rfl, hfz, _⟩ := hW
  rw [hvars] at hV
  obtain ⟨rfl, rfl⟩ := trodVars_none hV
  rw [List.append_nil] at hk
  have hlen : ds.length = τs.length := by
    have gen : ∀ {ts : List TypeId} {vs : List Value} {ds : List (DataW H)} {ps : List MemPlace}, DataW.TrodAll enc P W 0 (fun _ => true) true ts vs ds ps → ds.length = ts.length := by
      intro ts
      induction ts with
      | nil => intro vs ds ps h; cases vs <;> cases ds <;> first | rfl | cases h
      | cons t ts ih => intro vs ds ps h; cases vs <;> cases ds <;> first | (obtain ⟨_, _, _, h2, _⟩ := h; simp [ih h2]) | cases h
    have h2 := congrArg List.length hτ
    simp only [List.length_map] at h2
    rw [gen hA, h2]
  obtain ⟨ss, a1, a2, a3⟩ := args_read hB hτ (fun j t v hj hv => hval j t v (by simpa using hj) (by simpa using hv)) hA
  obtain ⟨hc, bs, hden⟩ := hlaw ss a1 (Nat.le_trans a3 hk)
  refine (law_calls hΓ hm hden a2).mono fun e W' ⟨he, hkp⟩ => ?_
  subst he
  exact ⟨_, rfl, law_post hW' hvars (by rw [List.append_nil]; exact hfn ds hlen) hrt htb K full hts hkp⟩
end

/-! ### A program's code -/
theorem comps_of {P : Program} {l : List (Nat × AF)} (h : ∀ x ∈ l, ∃ fn H L, P.funcs[x.1]? = some fn ∧ compF P H L fn = some x.2) : Comps P (look l) := by
  intro f af hf
  obtain ⟨x, hx, rfl⟩ := Option.map_eq_some_iff.1 hf
  have h1 := List.mem_of_find?_eq_some hx
  have h2 := List.find?_some hx
  simp only [beq_iff_eq] at h2
  subst h2
  exact h x h1
end AM

namespace AM
open Go
/-! ### The laws' helpers for lists, once for all types -/
def eqSC (n sz : Nat) : AC := (.seq (.reg false [⟨(some 4), none, .mv (.c (.c (.v (.bool false))))⟩]) (.seq (.seq (.reg false [⟨(some 6), none, .mv (.t 0)⟩, ⟨(some 7), none, .len (.t 6)⟩, ⟨(some 8), none, .mv (.t 1)⟩, ⟨(some 9), none, .len (.t 8)⟩, ⟨(some 10), none, .bin .neq (.t 7) (.t 9)⟩]) (.cond (.t 10) (.seq (.reg false [⟨(some 4), none, .mv (.c (.c (.v (.bool false))))⟩]) .ret) .skip)) (.seq (.seq (.reg false [⟨(some 5), none, .mv (.c (.c (.v (.int .i64 0))))⟩]) (.block 0 (.loop [0, 1, 5] (.seq (.seq (.reg false [⟨(some 11), none, .mv (.t 5)⟩, ⟨(some 12), none, .mv (.t 0)⟩, ⟨(some 13), none, .len (.t 12)⟩, ⟨(some 14), none, .bin .lss (.t 11) (.t 13)⟩]) (.cond (.t 14) .skip (.exit 0))) (.seq (.block 1 (.seq (.reg true [⟨(some 17), none, .mv (.t 0)⟩, ⟨(some 18), none, .mv (.t 5)⟩, ⟨(some 19), none, .ixa sz (.t 17) (.t 18)⟩, ⟨(some 20), none, .load true sz (.t 19)⟩, ⟨(some 21), none, .mv (.t 1)⟩, ⟨(some 22), none, .mv (.t 5)⟩, ⟨(some 23), none, .ixa sz (.t 21) (.t 22)⟩, ⟨(some 24), none, .load true sz (.t 23)⟩, ⟨(some 25), none, .calls n 1 [(.t 20), (.t 24)]⟩, ⟨(some 26), none, .un .not (.t 25)⟩]) (.cond (.t 26) (.seq (.reg false [⟨(some 4), none, .mv (.c (.c (.v (.bool false))))⟩]) .ret) .skip))) (.reg false [⟨(some 15), none, .mv (.t 5)⟩, ⟨(some 16), none, .bin .add (.t 15) (.c (.c (.v (.int .i64 1))))⟩, ⟨(some 5), none, .mv (.t 16)⟩])))))) (.seq (.reg false [⟨(some 4), none, .mv (.c (.c (.v (.bool true))))⟩]) .ret))))
def toSC (n sz : Nat) (z : List T) : AC := (.seq (.reg false [⟨(some 2), none, .mv (.c (.c (.l true sz [])))⟩]) (.seq (.reg false [⟨(some 5), none, .mv (.t 0)⟩, ⟨(some 6), none, .len (.t 5)⟩, ⟨(some 7), none, .mks sz z (.t 6)⟩, ⟨(some 3), none, .mv (.t 7)⟩]) (.seq (.seq (.reg false [⟨(some 4), none, .mv (.c (.c (.v (.int .i64 0))))⟩]) (.block 0 (.loop [0, 3, 4] (.seq (.seq (.reg false [⟨(some 8), none, .mv (.t 4)⟩, ⟨(some 9), none, .mv (.t 0)⟩, ⟨(some 10), none, .len (.t 9)⟩, ⟨(some 11), none, .bin .lss (.t 8) (.t 10)⟩]) (.cond (.t 11) .skip (.exit 0))) (.seq (.block 1 (.reg false [⟨(some 14), none, .mv (.t 3)⟩, ⟨(some 15), none, .mv (.t 4)⟩, ⟨(some 16), none, .mv (.t 0)⟩, ⟨(some 17), none, .mv (.t 4)⟩, ⟨(some 18), none, .ixa sz (.t 16) (.t 17)⟩, ⟨(some 19), none, .load true sz (.t 18)⟩, ⟨(some 20), none, .call n 1 [(.t 19)]⟩, ⟨(some 21), none, .ixa sz (.t 14) (.t 15)⟩, ⟨none, none, .store sz (.t 21) (.t 20)⟩])) (.reg false [⟨(some 12), none, .mv (.t 4)⟩, ⟨(some 13), none, .bin .add (.t 12) (.c (.c (.v (.int .i64 1))))⟩, ⟨(some 4), none, .mv (.t 13)⟩])))))) (.seq (.reg false [⟨(some 22), none, .mv (.t 3)⟩, ⟨(some 2), none, .mv (.t 22)⟩]) .ret))))
def tosSC (n sz : Nat) (z : List T) : AC := (.seq (.reg false [⟨(some 2), none, .mv (.c (.c (.l true sz [])))⟩]) (.seq (.reg false [⟨(some 5), none, .mv (.t 0)⟩, ⟨(some 6), none, .len (.t 5)⟩, ⟨(some 7), none, .mks sz z (.t 6)⟩, ⟨(some 3), none, .mv (.t 7)⟩]) (.seq (.seq (.reg false [⟨(some 4), none, .mv (.c (.c (.v (.int .i64 0))))⟩]) (.block 0 (.loop [0, 3, 4] (.seq (.seq (.reg false [⟨(some 8), none, .mv (.t 4)⟩, ⟨(some 9), none, .mv (.t 0)⟩, ⟨(some 10), none, .len (.t 9)⟩, ⟨(some 11), none, .bin .lss (.t 8) (.t 10)⟩]) (.cond (.t 11) .skip (.exit 0))) (.seq (.block 1 (.reg false [⟨(some 14), none, .mv (.t 3)⟩, ⟨(some 15), none, .mv (.t 4)⟩, ⟨(some 16), none, .mv (.t 0)⟩, ⟨(some 17), none, .mv (.t 4)⟩, ⟨(some 18), none, .ixa sz (.t 16) (.t 17)⟩, ⟨(some 19), none, .load true sz (.t 18)⟩, ⟨(some 20), none, .calls n 1 [(.t 19)]⟩, ⟨(some 21), none, .ixa sz (.t 14) (.t 15)⟩, ⟨none, none, .store sz (.t 21) (.t 20)⟩])) (.reg false [⟨(some 12), none, .mv (.t 4)⟩, ⟨(some 13), none, .bin .add (.t 12) (.c (.c (.v (.int .i64 1))))⟩, ⟨(some 4), none, .mv (.t 13)⟩])))))) (.seq (.reg false [⟨(some 22), none, .mv (.t 3)⟩, ⟨(some 2), none, .mv (.t 22)⟩]) .ret))))
def szSC (n sz : Nat) : AC := (.seq (.reg false [⟨(some 4), none, .mv (.c (.c (.v (.int .i64 0))))⟩]) (.seq (.reg false [⟨(some 6), none, .mv (.t 1)⟩, ⟨(some 7), none, .mv (.t 0)⟩, ⟨(some 8), none, .len (.t 7)⟩, ⟨(some 9), none, .bin .sub (.t 6) (.t 8)⟩, ⟨(some 1), none, .mv (.t 9)⟩]) (.seq (.seq (.reg false [⟨(some 10), none, .mv (.t 1)⟩, ⟨(some 11), none, .bin .lss (.t 10) (.c (.c (.v (.int .i64 0))))⟩]) (.cond (.t 11) (.seq (.reg false [⟨(some 4), none, .mv (.c (.c (.v (.int .i64 (-1)))))⟩]) .ret) .skip)) (.seq (.seq (.reg false [⟨(some 5), none, .mv (.c (.c (.v (.int .i64 0))))⟩]) (.block 0 (.loop [0, 1, 5] (.seq (.seq (.reg false [⟨(some 12), none, .mv (.t 5)⟩, ⟨(some 13), none, .mv (.t 0)⟩, ⟨(some 14), none, .len (.t 13)⟩, ⟨(some 15), none, .bin .lss (.t 12) (.t 14)⟩]) (.cond (.t 15) .skip (.exit 0))) (.seq (.block 1 (.seq (.reg false [⟨(some 18), none, .mv (.t 0)⟩, ⟨(some 19), none, .mv (.t 5)⟩, ⟨(some 20), none, .ixa sz (.t 18) (.t 19)⟩, ⟨(some 21), none, .load true sz (.t 20)⟩, ⟨(some 22), none, .mv (.t 1)⟩, ⟨(some 23), none, .calls n 1 [(.t 21), (.t 22)]⟩, ⟨(some 1), none, .mv (.t 23)⟩]) (.seq (.reg false [⟨(some 24), none, .mv (.t 1)⟩, ⟨(some 25), none, .bin .lss (.t 24) (.c (.c (.v (.int .i64 0))))⟩]) (.cond (.t 25) (.seq (.reg false [⟨(some 4), none, .mv (.c (.c (.v (.int .i64 (-1)))))⟩]) .ret) .skip)))) (.reg false [⟨(some 16), none, .mv (.t 5)⟩, ⟨(some 17), none, .bin .add (.t 16) (.c (.c (.v (.int .i64 1))))⟩, ⟨(some 5), none, .mv (.t 17)⟩])))))) (.seq (.reg false [⟨(some 26), none, .mv (.t 1)⟩, ⟨(some 4), none, .mv (.t 26)⟩]) .ret)))))
def sz0C : AC := (.seq (.reg false [⟨(some 4), none, .mv (.c (.c (.v (.int .i64 0))))⟩]) (.seq (.reg false [⟨(some 5), none, .mv (.t 1)⟩, ⟨(some 6), none, .mv (.t 0)⟩, ⟨(some 7), none, .len (.t 6)⟩, ⟨(some 8), none, .bin .sub (.t 5) (.t 7)⟩, ⟨(some 1), none, .mv (.t 8)⟩]) (.seq (.seq (.reg false [⟨(some 9), none, .mv (.t 1)⟩, ⟨(some 10), none, .bin .lss (.t 9) (.c (.c (.v (.int .i64 0))))⟩]) (.cond (.t 10) (.seq (.reg false [⟨(some 4), none, .mv (.c (.c (.v (.int .i64 (-1)))))⟩]) .ret) .skip)) (.seq (.reg false [⟨(some 11), none, .mv (.t 1)⟩, ⟨(some 4), none, .mv (.t 11)⟩]) .ret))))
attribute [simp] tl al ai ab AM.as ag
section
variable {Γ : Nat → Option AF} {α : Type} [Enc α] {f n : Nat}
theorem row_at (o : Bool) (xs : List α) {i : Nat} (h : i < xs.length) : (xs.map (Enc.cells o))[i]? = some (Enc.cells o xs[i]) := by simp [h]
@[simp] theorem cells_take (o : Bool) (x : α) : List.take (Enc.sz α) (Enc.cells o x) = Enc.cells o x := by rw [← Enc.len o x, List.take_length]
@[simp] theorem borL_c (h : Heap) : ∀ ts : List T, borL h (ts.map .c) = some ((fzL ts).map .c)
  | [] => rfl
  | t :: ts => by simp [borL_c h ts]
@[simp] theorem fz_cells (o : Bool) (x : α) : fzL (Enc.cells o x) = Enc.cells false x := Enc.fz o x
@[simp] theorem len_cells (o : Bool) (x : α) : (Enc.cells o x).length = Enc.sz α := Enc.len o x
@[simp] theorem own_cells (x : α) : ownL (Enc.cells true x) = true := Enc.own x
theorem fzLL_map (o : Bool) : ∀ xs : List α, fzLL (xs.map (Enc.cells o)) = xs.map (Enc.cells false)
  | [] => rfl
  | x :: xs => by simp [fzLL, fzLL_map o xs]
theorem ownLL_map : ∀ xs : List α, ownLL (xs.map (Enc.cells true)) = true
  | [] => rfl
  | x :: xs => by simp [ownLL, ownLL_map xs]
attribute [simp] fzLL_map ownLL_map
@[simp] theorem take_map_len {β γ : Type} (g : β → γ) (xs : List β) : List.take xs.length (List.map g xs) = List.map g xs := by rw [← List.length_map (f := g), List.take_length]
end
end AM

namespace AM
open Go
set_option maxRecDepth 100000
section
variable {Γ : Nat → Option AF} {α : Type} [Enc α] {f n : Nat}
/-- eq: two lists. -/
theorem eqS_gen [DecidableEq α] (hf : Γ f = some ⟨eqSC n (Enc.sz α), [.tmp 4]⟩) (hc : ∀ x y : α, sm x → ret Γ n [ag x, ag y] = some [.o (.v (.bool (decide (x = y))))]) (xs ys : List α) (hs : sml xs) :
    ret Γ f [al xs, al ys] = some [.o (.v (.bool (decide (xs = ys))))] := by
  have hl := sml_len hs
  refine ret_of hf ?_
  simp [eqSC]
  split
  · rename_i hlen
    have hlen : xs.length = ys.length := by omega
    refine loop_ind (ι := Nat) (fun i => ⟨upd (upd (upd (fun _ => .u) 5 (ai i)) 1 (al ys)) 0 (al xs), cbx [] (fun _ => none), ch [] (fun _ => none)⟩) (fun i => xs.length - i) (fun i => i ≤ xs.length ∧ (decide (xs.drop i = ys.drop i) = decide (xs = ys))) ?_ 0 ?_ _ ?_
    · intro i ⟨hi, he⟩ ih
      by_cases hlt : i < xs.length
      · have hlt2 : i < ys.length := by omega
        rw [List.drop_eq_getElem_cons hlt, List.drop_eq_getElem_cons hlt2] at he
        have hc' := hc xs[i] ys[i] (sml_get hs hlt)
        simp at hc'
        simp [hlt, hlt2, hc']
        split
        · rename_i hw
          refine ih (i + 1) (by omega) ⟨by omega, by simpa only [List.cons.injEq, hw, true_and] using he⟩ _ ?_
          simp [wrap_nat (i := i) (by omega)]
        · rename_i hw
          simp only [List.cons.injEq, hw, false_and, decide_false] at he
          simpa using he.symm
      · obtain rfl : i = xs.length := by omega
        simp [hlen] at he
        simp [he]
    · simp
    · simp
  · rename_i hlen
    intro e
    exact hlen (by rw [e])
/-- sz: no more than so much. -/
theorem sz0_gen (hf : Γ f = some ⟨sz0C, [.tmp 4]⟩) (xs : List α) (left : Int) (hs : sml xs) (h : 0 ≤ left ∧ left ≤ 1048576) : ret Γ f [al xs, ai left] = some [.o (.v (.int .i64 (if left < xs.length then -1 else left - xs.length)))] := by
  have hl := sml_len hs
  refine ret_of hf ?_
  simp [sz0C]
  rw [wrap_id (by omega) (by omega)]
  split <;> omega
def wsum (w : α → Nat) (xs : List α) : Nat := (xs.map w).sum
theorem szS_gen (w : α → Nat) (hf : Γ f = some ⟨szSC n (Enc.sz α), [.tmp 4]⟩) (hc : ∀ (x : α) (left : Int), sm x → 0 ≤ left ∧ left ≤ 1048576 → ret Γ n [ag x, ai left] = some [.o (.v (.int .i64 (if left < w x then -1 else left - w x)))]) (xs : List α) (left : Int) (hs : sml xs) (h : 0 ≤ left ∧ left ≤ 1048576) :
    ret Γ f [al xs, ai left] = some [.o (.v (.int .i64 (if left < (xs.length + wsum w xs : Nat) then -1 else left - (xs.length + wsum w xs : Nat))))] := by
  have hl := sml_len hs
  refine ret_of hf ?_
  simp [szSC]
  generalize hR : (if left < (xs.length : Int) + (wsum w xs : Nat) then (-1 : Int) else left - ((xs.length : Int) + (wsum w xs : Nat))) = R
  rw [wrap_id (by omega) (by omega)]
  split
  · intros; omega
  · refine loop_ind (ι := Nat × Int) (fun x => ⟨upd (upd (upd (fun _ => .u) 5 (ai x.1)) 1 (ai x.2)) 0 (al xs), cbx [] (fun _ => none), ch [] (fun _ => none)⟩) (fun x => xs.length - x.1)
      (fun x => x.1 ≤ xs.length ∧ 0 ≤ x.2 ∧ x.2 ≤ 1048576 ∧ (if x.2 < (wsum w (xs.drop x.1) : Nat) then (-1 : Int) else x.2 - (wsum w (xs.drop x.1) : Nat)) = R) ?_ (0, left - xs.length) ?_ _ ?_
    · rintro ⟨i, l⟩ ⟨hi, h0, h1, he⟩ ih
      simp only at hi h0 h1 he
      by_cases hlt : i < xs.length
      · have e1 : wsum w (xs.drop i) = w xs[i] + wsum w (xs.drop (i + 1)) := by rw [List.drop_eq_getElem_cons hlt]; simp only [wsum, List.map_cons, List.sum_cons]
        rw [e1] at he
        have hc' := hc xs[i] l (sml_get hs hlt) ⟨h0, h1⟩
        simp at hc'
        simp [hlt, hc']
        by_cases hw : l < (w xs[i] : Int)
        · simp [hw]
          rw [← he, if_pos (by omega)]
        · simp only [hw, if_false]
          rw [if_neg (by omega)]
          refine ih (i + 1, l - w xs[i]) (by simp only; omega) ⟨by simp only; omega, by simp only; omega, by simp only; omega, ?_⟩ _ ?_
          · simp only
            rw [← he]
            split <;> split <;> omega
          · simp [wrap_nat (i := i) (by omega)]
      · obtain rfl : i = xs.length := by omega
        simp [wsum] at he
        simp
        rw [← he, if_neg (by omega)]
    · refine ⟨by simp, by simp only; omega, by simp only; omega, ?_⟩
      rw [← hR]
      simp only [List.drop_zero]
      split <;> split <;> omega
    · simp
end
end AM

namespace AM
open Go
set_option maxRecDepth 100000
attribute [simp] killed
section
variable {Γ : Nat → Option AF} {α : Type} [Enc α] {f n : Nat}
@[simp] theorem mvL_c (h : Heap) : ∀ ts : List T, mvL h (ts.map .c) = some (ts, h)
  | [] => rfl
  | t :: ts => by simp [mvL_c h ts]
/-- What is given can be taken. -/
theorem giveL_ok {d : Nat} : ∀ (ts : List T) (h : Heap) (j : Nat), (∀ k, j ≤ k → h (d, k) = none) → ∃ ss h1 h2, giveL h d j ts = some (ss, h1) ∧ mvL h1 ss = some (ts, h2) ∧ (∀ id, id.1 ≠ d ∨ id.2 < j → h1 id = h id) ∧ (∀ id, id.1 ≠ d ∨ id.2 < j → h2 id = h id)
  | [], h, j, hn => ⟨[], h, h, rfl, rfl, fun _ _ => rfl, fun _ _ => rfl⟩
  | t :: ts, h, j, hn => by
    have plain : give1 h (d, j) t = some (.c t, h) → ∃ ss h1 h2, giveL h d j (t :: ts) = some (ss, h1) ∧ mvL h1 ss = some (t :: ts, h2) ∧ (∀ id, id.1 ≠ d ∨ id.2 < j → h1 id = h id) ∧ (∀ id, id.1 ≠ d ∨ id.2 < j → h2 id = h id) := by
      intro hg
      obtain ⟨ss, h1, h2, e1, e2, e3, e4⟩ := giveL_ok ts h (j + 1) (fun k hk => hn k (by omega))
      exact ⟨.c t :: ss, h1, h2, by simp only [giveL, hg, e1], by simp [e2], fun id hi => e3 id (by omega), fun id hi => e4 id (by omega)⟩
    match t with
    | .u => exact plain rfl
    | .v x => exact plain rfl
    | .l false sz rows => exact plain rfl
    | .l true sz rows =>
      have hg : give1 h (d, j) (.l true sz rows) = some (.r (d, j) [] sz 0 rows.length, hnew h (d, j) (.l true sz rows)) := by simp [hn j (Nat.le_refl _)]
      obtain ⟨ss, h1, h2, e1, e2, e3, e4⟩ := giveL_ok (d := d) ts (hnew h (d, j) (.l true sz rows)) (j + 1) (fun k hk => by
        have : k ≠ j := by omega
        simp [this, hn k (by omega)])
      have q1 : h1 (d, j) = some (.l true sz rows) := by rw [e3 (d, j) (by right; simp)]; simp
      have carry : ∀ (ts : List T) (ss : List SV) (ha hb : Heap), (∀ s ∈ ss, ∀ id ∈ s.lsI, id ≠ (d, j)) → mvL ha ss = some (ts, hb) → mvL (hput ha (d, j) [] .u) ss = some (ts, hput hb (d, j) [] .u) := by
        intro ts ss
        induction ss generalizing ts with
        | nil => intro ha hb _ he; simp only [mvL, Option.some.injEq, Prod.mk.injEq] at he ⊢; exact ⟨he.1, by rw [he.2]⟩
        | cons s ss ih =>
          intro ha hb hs he
          simp only [mvL] at he
          split at he
          · rename_i t1 hc h1e
            split at he
            · rename_i ts' hd h2e
              simp only [Option.some.injEq, Prod.mk.injEq] at he
              obtain ⟨rfl, rfl⟩ := he
              have m1 : mv1 (hput ha (d, j) [] .u) s = some (t1, hput hc (d, j) [] .u) := by
                have hne := hs s List.mem_cons_self
                unfold mv1 at h1e ⊢
                split at h1e
                · simp only [Option.some.injEq, Prod.mk.injEq] at h1e ⊢; exact ⟨h1e.1, by rw [h1e.2]⟩
                · simp only [Option.some.injEq, Prod.mk.injEq] at h1e ⊢; exact ⟨h1e.1, by rw [h1e.2]⟩
                · rename_i id p sz' lo n'
                  have hid : id ≠ (d, j) := hne id (by simp)
                  have hh : AM.hat (hput ha (d, j) [] .u) id p = AM.hat ha id p := by simp [hid]
                  rw [hh]
                  cases hq : AM.hat ha id p with
                  | none => rw [hq] at h1e; cases h1e
                  | some tq =>
                  rw [hq] at h1e
                  split at h1e
                  · rename_i hq2
                    obtain rfl := Option.some.inj hq2
                    split at h1e
                    · rename_i hcond
                      show (if _ then _ else _) = _
                      rw [if_pos hcond]
                      simp only [Option.some.injEq, Prod.mk.injEq] at h1e ⊢
                      refine ⟨h1e.1, ?_⟩
                      rw [← h1e.2]
                      funext k
                      simp only [hput_get]
                      by_cases k1 : k = id
                      · subst k1; simp [hid]
                      · by_cases k2 : k = (d, j)
                        · subst k2; simp [k1, Ne.symm hid]
                        · simp [k1, k2]
                    · cases h1e
                  · cases h1e
                · cases h1e
              have m2 := ih ts' hc hd (fun x hx => hs x (List.mem_cons_of_mem _ hx)) h2e
              simp only [mvL, m1, m2]
            · cases he
          · cases he
      have names : ∀ (ts : List T) (h h1 : Heap) (k : Nat) (ss : List SV), giveL h d k ts = some (ss, h1) → ∀ s ∈ ss, ∀ id ∈ s.lsI, id.1 = d ∧ k ≤ id.2 := by
        intro ts
        induction ts with
        | nil => intro h h1 k ss he; simp only [giveL, Option.some.injEq, Prod.mk.injEq] at he; obtain ⟨rfl, _⟩ := he; simp
        | cons t ts ih =>
          intro h h1 k ss he s hs id hid
          simp only [giveL] at he
          split at he
          · rename_i s1 h2 h2e
            split at he
            · rename_i ss' h3 h3e
              simp only [Option.some.injEq, Prod.mk.injEq] at he
              obtain ⟨rfl, rfl⟩ := he
              rcases List.mem_cons.1 hs with rfl | hs
              · unfold give1 at h2e
                split at h2e
                · split at h2e
                  · simp only [Option.some.injEq, Prod.mk.injEq] at h2e
                    obtain ⟨rfl, _⟩ := h2e
                    simp at hid
                    subst hid
                    exact ⟨rfl, Nat.le_refl _⟩
                  · cases h2e
                · simp only [Option.some.injEq, Prod.mk.injEq] at h2e
                  obtain ⟨rfl, _⟩ := h2e
                  simp at hid
              · have := ih h2 h3 (k + 1) ss' h3e s hs id hid
                exact ⟨this.1, by omega⟩
            · cases he
          · cases he
      refine ⟨.r (d, j) [] sz 0 rows.length :: ss, h1, hput h2 (d, j) [] .u, by simp only [giveL, hg, e1], ?_, fun id hi => ?_, fun id hi => ?_⟩
      · have := carry ts ss h1 h2 (fun s hs id hid e => by have := (names ts _ _ _ _ e1 s hs id hid).2; rw [e] at this; simp at this; omega) e2
        simp [q1, this]
      · rw [e3 id (by omega)]
        have : id ≠ (d, j) := fun e => by rw [e] at hi; simp at hi
        simp [this]
      · have : id ≠ (d, j) := fun e => by rw [e] at hi; simp at hi
        simp only [hput_get, this, if_false]
        rw [e4 id (by omega)]
        simp [this]
/-- A list, half made. -/
def fill (xs : List α) (z : List T) (i : Nat) : List (List T) := (xs.take i).map (Enc.cells true) ++ List.replicate (xs.length - i) z
theorem fill_len (xs : List α) (z : List T) {i : Nat} (h : i ≤ xs.length) : (fill xs z i).length = xs.length := by simp [fill]; omega
theorem fill_get (xs : List α) (z : List T) {i : Nat} (h : i < xs.length) : (fill xs z i)[i]? = some z := by
  unfold fill
  have e : (List.map (Enc.cells true) (List.take i xs)).length = i := by simp; omega
  rw [List.getElem?_append_right (by omega), e, Nat.sub_self]
  have e2 : xs.length - i = (xs.length - (i + 1)) + 1 := by omega
  rw [e2, List.replicate_succ]
  rfl
theorem fill_set (xs : List α) (z : List T) {i : Nat} (h : i < xs.length) : (fill xs z i).set i (Enc.cells true xs[i]) = fill xs z (i + 1) := by
  unfold fill
  have e : xs.length - i = (xs.length - (i + 1)) + 1 := by omega
  have e1 : (List.map (Enc.cells true) (List.take i xs)).length = i := by simp; omega
  rw [e, List.replicate_succ, List.set_append]
  rw [if_neg (by omega), e1, Nat.sub_self, List.set_cons_zero, List.take_add_one, List.map_append]
  simp [h]
theorem fill_all (xs : List α) (z : List T) : fill xs z xs.length = xs.map (Enc.cells true) := by simp [fill]
theorem fill_0 (xs : List α) (z : List T) : fill xs z 0 = List.replicate xs.length z := by simp [fill]
theorem tos_gen (z : List T) (hz : z.length = Enc.sz α) (hf : Γ f = some ⟨tosSC n (Enc.sz α) z, [.tmp 2]⟩) (hs : ∀ x : α, allScal (Enc.cells true x) = true) (hc : ∀ x : α, sm x → ret Γ n [ag x] = some [.a (Enc.cells true x)]) (xs : List α) (hsm : sml xs) (hsz : Enc.sz α ≤ 1000) :
    ret Γ f [al xs] = some [.o (tl true xs)] := by
  have hl := sml_len hsm
  have hlim : xs.length * (Enc.sz α + 1) ≤ LIM := Nat.le_trans (Nat.mul_le_mul hl (Nat.succ_le_succ hsz)) (by decide)
  refine ret_of hf ?_
  simp [tosSC, hlim]
  refine loop_ind (ι := Nat) (fun i => ⟨upd (upd (upd (fun _ => .u) 4 (ai i)) 3 (.r (0, 1000000) [] (Enc.sz α) 0 xs.length)) 0 (al xs), cbx [] (fun _ => none), ch [some (.l true (Enc.sz α) (fill xs z i))] (fun _ => none)⟩) (fun i => xs.length - i) (fun i => i ≤ xs.length) ?_ 0 ?_ _ ?_
  · intro i hi ih
    by_cases hlt : i < xs.length
    · have hc' := hc xs[i] (sml_get hsm hlt)
      simp at hc'
      have hs' := hs xs[i]
      simp [hlt, hc', hs', fill_get xs z hlt, hz]
      refine ih (i + 1) (by omega) (by omega) _ ?_
      have hd : List.drop (Enc.sz α) z = [] := by rw [← hz, List.drop_length]
      simp [wrap_nat (i := i) (by omega), hd, fill_set xs z hlt]
    · obtain rfl : i = xs.length := by omega
      simp [fill_len, fill_all]
  · simp
  · simp [fill_0]
/-- to: a list whose elements hold lists. -/
theorem ch_l_eq {a : List (Option T)} {h h' : Heap} (e : ∀ id : Id, id.1 ≠ 21 ∨ id.2 < 0 → h id = h' id) : ch a (lentOf h) = ch a (lentOf h') := ch_ext fun k hk => by simp [lentOf, hk, e (0, k) (.inl (by simp))]
theorem to_gen (z : List T) (hz : z.length = Enc.sz α) (hf : Γ f = some ⟨toSC n (Enc.sz α) z, [.tmp 2]⟩) (hc : ∀ x : α, sm x → ret Γ n [ag x] = some [.a (Enc.cells true x)]) (xs : List α) (hsm : sml xs) (hsz : Enc.sz α ≤ 1000) :
    ret Γ f [al xs] = some [.o (tl true xs)] := by
  have hl := sml_len hsm
  have hlim : xs.length * (Enc.sz α + 1) ≤ LIM := Nat.le_trans (Nat.mul_le_mul hl (Nat.succ_le_succ hsz)) (by decide)
  refine ret_of hf ?_
  simp [toSC, hlim]
  refine loop_ind (ι := Nat) (fun i => ⟨upd (upd (upd (fun _ => .u) 4 (ai i)) 3 (.r (0, 1000000) [] (Enc.sz α) 0 xs.length)) 0 (al xs), cbx [] (fun _ => none), ch [some (.l true (Enc.sz α) (fill xs z i))] (fun _ => none)⟩) (fun i => xs.length - i) (fun i => i ≤ xs.length) ?_ 0 ?_ _ ?_
  · intro i hi ih
    by_cases hlt : i < xs.length
    · have hc' := hc xs[i] (sml_get hsm hlt)
      simp at hc'
      obtain ⟨ss, h1, h2, e1, e2, e3, e4⟩ := giveL_ok (d := 21) (Enc.cells true xs[i]) (ch [some (.l true (Enc.sz α) (fill xs z i))] (fun _ => none)) 0 (by intro k _; simp)
      simp [hlt, hc', e1, e2, e3, e4, fill_get xs z hlt, hz]
      refine ih (i + 1) (by omega) (by omega) _ ?_
      have hd : List.drop (Enc.sz α) z = [] := by rw [← hz, List.drop_length]
      simp [wrap_nat (i := i) (by omega), hd, fill_set xs z hlt, e4, ch_l_eq e4]
    · obtain rfl : i = xs.length := by omega
      simp [fill_len, fill_all]
  · simp
  · simp [fill_0]
end
end AM

namespace AM
open Go
/-- Trees of a type, read back. -/
class Dec (α : Type) extends Enc α where
  ty : Ty
  tysz : ty.cells = sz
  dec : ∀ ts, ty.mem ts → ∃ x : α, ts = cells false x
theorem dec_list {α : Type} [Dec α] {t : T} (h : (Ty.slice (Dec.ty α)).mem [t]) : ∃ xs : List α, t = tl false xs := by
  simp only [Ty.mem] at h
  obtain ⟨rows, hr, hm⟩ := h
  simp only [List.cons.injEq, and_true] at hr
  subst hr
  have key : ∀ rows : List (List T), (∀ r ∈ rows, (Dec.ty α).mem r) → ∃ xs : List α, rows = xs.map (Enc.cells false) := by
    intro rows
    induction rows with
    | nil => intro _; exact ⟨[], rfl⟩
    | cons r rows ih =>
      intro h
      obtain ⟨x, rfl⟩ := Dec.dec r (h r List.mem_cons_self)
      obtain ⟨xs, rfl⟩ := ih fun r hr => h r (List.mem_cons_of_mem _ hr)
      exact ⟨x :: xs, rfl⟩
  obtain ⟨xs, rfl⟩ := key rows hm
  exact ⟨xs, by rw [Dec.tysz]; rfl⟩
theorem memL_cons {τ : Ty} {τs : List Ty} {ts : List T} : memL (τ :: τs) ts ↔ ∃ a b, ts = a ++ b ∧ τ.mem a ∧ memL τs b := by simp only [memL]
theorem memL_nil {ts : List T} : memL [] ts ↔ ts = [] := by simp only [memL]
theorem mem_int {k : IntKind} {ts : List T} : (Ty.int k).mem ts ↔ ∃ n, ts = [.v (.int k n)] ∧ k.min ≤ n ∧ n ≤ k.max := by simp only [Ty.mem]
theorem mem_bool {ts : List T} : Ty.bool.mem ts ↔ ∃ b, ts = [.v (.bool b)] := by simp only [Ty.mem]
theorem mem_str {ts : List T} : Ty.str.mem ts ↔ ∃ s, ts = [.v (.string s)] := by simp only [Ty.mem]
theorem mem_struct {fs : List Ty} {ts : List T} : (Ty.struct fs).mem ts ↔ memL fs ts := by simp only [Ty.mem]
theorem dec_list2 {α : Type} [Dec α] {a : List T} (h : (Ty.slice (Dec.ty α)).mem a) : ∃ xs : List α, a = [tl false xs] := by
  have hl := mem_len h
  match a, hl, h with
  | [t], _, h => obtain ⟨xs, rfl⟩ := dec_list h; exact ⟨xs, rfl⟩
theorem arg_list {α : Type} [Dec α] {s : SV} (h : ArgMem (Ty.slice (Dec.ty α)) s) : ∃ xs : List α, s = al xs ∧ wtLL (xs.map (Enc.cells false)) < s.wt := by
  simp only [ArgMem] at h
  obtain ⟨t, rfl, hm⟩ := h
  obtain ⟨xs, rfl⟩ := dec_list hm
  refine ⟨xs, rfl, ?_⟩
  simp [SV.wt, T.wt, tl]
theorem arg_int {s : SV} (h : ArgMem (.int .i64) s) : ∃ n : Int, s = ai n ∧ -9223372036854775808 ≤ n ∧ n ≤ 9223372036854775807 := by
  simp only [ArgMem, Ty.mem] at h
  obtain ⟨t, rfl, n, hn, h1, h2⟩ := h
  simp only [List.cons.injEq, and_true] at hn
  subst hn
  exact ⟨n, rfl, h1, h2⟩
theorem arg_str {s : SV} (h : ArgMem .str s) : ∃ b : ByteArray, s = AM.as b ∧ b.size < s.wt := by
  simp only [ArgMem, Ty.mem] at h
  obtain ⟨t, rfl, b, hb⟩ := h
  simp only [List.cons.injEq, and_true] at hb
  subst hb
  exact ⟨b, rfl, by simp [SV.wt, T.wt, valWt]⟩
theorem arg_struct {α : Type} [Dec α] {fs : List Ty} (e : Dec.ty α = .struct fs) {s : SV} (h : ArgMem (.struct fs) s) : ∃ x : α, s = ag x ∧ wtL (Enc.cells false x) ≤ s.wt := by
  simp only [ArgMem] at h
  obtain ⟨ts, rfl, hm⟩ := h
  obtain ⟨x, rfl⟩ := Dec.dec (α := α) ts (by rw [e]; exact hm)
  exact ⟨x, rfl, by simp only [ag, SV.wt, svsWt_c]; exact Nat.le_refl _⟩
theorem law_of_ret {Γ : Nat → Option AF} {f : Nat} {args : List SV} (h : ret Γ f args = some [.o (.v (.bool true))]) : ∃ hc bs, den Γ f args (fun _ => none) [] = some ([.o (.v (.bool true))], hc, bs) := by
  unfold ret at h
  obtain ⟨⟨vs, hc, bs⟩, h1, h2⟩ := Option.map_eq_some_iff.1 h
  simp only at h2
  subst h2
  exact ⟨hc, bs, h1⟩
theorem args_cons {τ : Ty} {τs : List Ty} {ss : List SV} (h : ArgsMem (τ :: τs) ss) : ∃ s r, ss = s :: r ∧ ArgMem τ s ∧ ArgsMem τs r := h
theorem args_nil {ss : List SV} (h : ArgsMem [] ss) : ss = [] := h
/-! ### Loop heads, written short -/
def lv : List (Nat × SV) → Nat → SV
  | [] => fun _ => .u
  | (k, v) :: l => upd (lv l) k v
@[simp] theorem lv_nil : lv [] = fun _ => .u := rfl
@[simp] theorem lv_cons (k : Nat) (v : SV) (l : List (Nat × SV)) : lv ((k, v) :: l) = upd (lv l) k v := rfl
def hd0 (l : List (Nat × SV)) : St := ⟨lv l, cbx [] (fun _ => none), ch [] (fun _ => none)⟩
@[simp] theorem hd0_eq (l : List (Nat × SV)) : hd0 l = ⟨lv l, cbx [] (fun _ => none), ch [] (fun _ => none)⟩ := rfl
def hdl (l : List (Nat × SV)) (ts : List T) : St := ⟨lv l, cbx [] (fun _ => none), ch (ts.map some) (fun _ => none)⟩
@[simp] theorem hdl_eq (l : List (Nat × SV)) (ts : List T) : hdl l ts = ⟨lv l, cbx [] (fun _ => none), ch (ts.map some) (fun _ => none)⟩ := rfl
def hdb (l : List (Nat × SV)) (bs : List (List SV)) (ts : List T) : St := ⟨lv l, cbx (bs.map some) (fun _ => none), ch (ts.map some) (fun _ => none)⟩
@[simp] theorem hdb_eq (l : List (Nat × SV)) (bs : List (List SV)) (ts : List T) : hdb l bs ts = ⟨lv l, cbx (bs.map some) (fun _ => none), ch (ts.map some) (fun _ => none)⟩ := rfl
/-- The first place of what is sought. -/
def fidx {α : Type} (p : α → Bool) : List α → Nat → Int
  | [], _ => -1
  | x :: xs, i => if p x = true then (i : Int) else fidx p xs (i + 1)
theorem fidx_range {α : Type} (p : α → Bool) : ∀ (xs : List α) (i : Nat), fidx p xs i = -1 ∨ ∃ j : Nat, ∃ h : j < xs.length, fidx p xs i = ((i + j : Nat) : Int) ∧ p xs[j] = true
  | [], _ => .inl rfl
  | x :: xs, i => by
    simp only [fidx]
    by_cases hp : p x = true
    · rw [if_pos hp]; exact .inr ⟨0, by simp, by simp, by simpa using hp⟩
    · rw [if_neg hp]
      rcases fidx_range p xs (i + 1) with h | ⟨j, hj, h1, h2⟩
      · exact .inl h
      · exact .inr ⟨j + 1, by simpa using hj, by rw [h1]; congr 1; omega, by simpa using h2⟩
end AM

namespace AM
open Go
set_option maxRecDepth 100000
/-! ### Functions that change lists that they are lent -/
def finL (res : List RV) (vs : List V) (ts : List (Option T)) : X → St → Prop
  | .e _, _ => False
  | .n, s => ∃ hh, getRes s.σ s.bx s.h res = some (vs, hh) ∧ ∀ k, k < ts.length → hh (0, k) = (ts[k]?).join
  | .r, s => ∃ hh, getRes s.σ s.bx s.h res = some (vs, hh) ∧ ∀ k, k < ts.length → hh (0, k) = (ts[k]?).join
@[simp] theorem finL_n {res : List RV} {vs : List V} {ts : List (Option T)} {s : St} : finL res vs ts .n s = ∃ hh, getRes s.σ s.bx s.h res = some (vs, hh) ∧ ∀ k, k < ts.length → hh (0, k) = (ts[k]?).join := rfl
@[simp] theorem finL_r {res : List RV} {vs : List V} {ts : List (Option T)} {s : St} : finL res vs ts .r s = ∃ hh, getRes s.σ s.bx s.h res = some (vs, hh) ∧ ∀ k, k < ts.length → hh (0, k) = (ts[k]?).join := rfl
/-- What a call that is lent lists answers, and what it leaves in them. -/
def lret (Γ : Nat → Option AF) (f : Nat) (as : List SV) (hc : Heap) (vs : List V) (ts : List (Option T)) : Prop := ∃ hc', den Γ f as hc [] = some (vs, hc', []) ∧ ∀ k, k < ts.length → hc' (0, k) = (ts[k]?).join
theorem lret_of {Γ : Nat → Option AF} {f : Nat} {af : AF} {as : List SV} {hc : Heap} {vs : List V} {ts : List (Option T)} (hf : Γ f = some af)
    (hw : wp Γ 0 af.code ⟨fun i => as.getD i .u, fun _ => none, hc⟩ (finL af.res vs ts)) : lret Γ f as hc vs ts := by
  obtain ⟨x, s, h1, h2⟩ := hw
  have hx : (x = .n ∨ x = .r) ∧ ∃ hh, getRes s.σ s.bx s.h af.res = some (vs, hh) ∧ ∀ k, k < ts.length → hh (0, k) = (ts[k]?).join := by
    cases x with
    | n => exact ⟨.inl rfl, h2⟩
    | r => exact ⟨.inr rfl, h2⟩
    | e _ => exact h2.elim
  obtain ⟨h3, hh, h4, h5⟩ := hx
  have hb : (fun id : Id => if id.1 = 0 then ([] : List (List SV))[id.2]? else none) = fun _ => none := by funext id; simp
  exact ⟨hh, den_of (Γ := Γ) (f := f) (a := as) (h := hc) (b := []) (af := af) (x := x) (s := s) (r := (vs, hh, [])) hf (by rw [hb]; exact h1) h3 (by simp [fin, h4, getB]), h5⟩
@[simp] theorem bin_rem (a b : Int) (h : b ≠ 0) : abin .rem (.int .i64 a) (.int .i64 b) = some (.int .i64 (a.tmod b)) := by
  simp [abin, Go.binOp, h, Op.intDiv, isOc, pure]
@[simp] theorem bin_quo (a b : Int) (h : b ≠ 0) : abin .quo (.int .i64 a) (.int .i64 b) = some (.int .i64 (IntKind.i64.wrap (a.tdiv b))) := by
  simp [abin, Go.binOp, h, Op.intDiv, isOc, pure]
def lent1 (t : T) : Nat → Option T := fun k => if k = 0 then some t else none
def hdm (l : List (Nat × SV)) (t : T) : St := ⟨lv l, cbx [] (fun _ => none), ch [] (lent1 t)⟩
@[simp] theorem hdm_eq (l : List (Nat × SV)) (t : T) : hdm l t = ⟨lv l, cbx [] (fun _ => none), ch [] (lent1 t)⟩ := rfl
@[simp] theorem lent1_0 (t : T) : lent1 t 0 = some t := rfl
theorem lent1_of {h : Heap} {t : T} (h0 : h (0, 0) = some t) (h1 : ∀ k, k ≠ 0 → h (0, k) = none) : lentOf h = lent1 t := by
  funext k
  unfold lentOf lent1
  by_cases hk : k = 0
  · subst hk; rw [if_pos (by decide), h0]; rfl
  · simp [hk, h1 k hk]
section
variable {α : Type}
/-- the first i of one list, then the rest of another -/
def mfill (a xs : List α) (i : Nat) : List α := a.take i ++ xs.drop i
theorem mfill_0 (a xs : List α) : mfill a xs 0 = xs := by simp [mfill]
theorem mfill_all {a xs : List α} (h : a.length = xs.length) : mfill a xs xs.length = a := by simp [mfill, ← h]
theorem mfill_len {a xs : List α} (h : a.length = xs.length) (i : Nat) : (mfill a xs i).length = xs.length := by simp [mfill]; omega
theorem mfill_get {a xs : List α} (h : a.length = xs.length) {i : Nat} (hi : i < xs.length) : (mfill a xs i)[i]? = some xs[i] := by
  unfold mfill
  rw [List.getElem?_append_right (by simp; omega), List.length_take, Nat.min_eq_left (by omega)]
  simp [hi]
theorem mfill_set {a xs : List α} (h : a.length = xs.length) {i : Nat} (hi : i < xs.length) : (mfill a xs i).set i (a[i]'(by omega)) = mfill a xs (i + 1) := by
  have hi' : i < a.length := by omega
  unfold mfill
  rw [List.set_append_right _ _ (by simp; omega), List.length_take, Nat.min_eq_left (by omega), List.drop_eq_getElem_cons hi, Nat.sub_self, List.set_cons_zero]
  have e : a.take (i + 1) = a.take i ++ [a[i]] := by rw [List.take_add_one, List.getElem?_eq_getElem hi']; rfl
  rw [e, List.append_assoc]; rfl
def marks (g : Int → α → α) (c : α → Nat) : Int → List α → List α
  | _, [] => []
  | k, x :: xs => g k x :: marks g c (k + c x) xs
theorem marks_len (g : Int → α → α) (c : α → Nat) : ∀ (k : Int) (xs : List α), (marks g c k xs).length = xs.length
  | _, [] => rfl
  | k, x :: xs => by simp [marks, marks_len g c (k + c x) xs]
theorem marks_get (g : Int → α → α) (c : α → Nat) : ∀ (xs : List α) (k : Int) {i : Nat} (h : i < xs.length), (marks g c k xs)[i]'(by rw [marks_len]; exact h) = g (k + (wsum c (xs.take i) : Nat)) xs[i]
  | x :: xs, k, 0, _ => by simp [marks, wsum]
  | x :: xs, k, i + 1, h => by
    simp only [marks, List.getElem_cons_succ, List.take_succ_cons]
    rw [marks_get g c xs (k + c x) (by simpa using h)]
    congr 1
    simp only [wsum, List.map_cons, List.sum_cons]
    omega
theorem wsum_take (c : α → Nat) (xs : List α) {i : Nat} (h : i < xs.length) : wsum c (xs.take (i + 1)) = wsum c (xs.take i) + c xs[i] := by
  simp only [wsum, List.take_add_one, h, List.getElem?_eq_getElem, Option.toList, List.map_append, List.sum_append]
  simp
theorem wsum_le (c : α → Nat) (xs : List α) (i : Nat) : wsum c (xs.take i) ≤ wsum c xs := by
  have e : xs = xs.take i ++ xs.drop i := (List.take_append_drop i xs).symm
  have : wsum c xs = wsum c (xs.take i) + wsum c (xs.drop i) := by
    conv => lhs; rw [e]
    simp only [wsum, List.map_append, List.sum_append]
  omega
end
@[simp] theorem at_cons (sz : Nat) (rows : List (List T)) (i f : Nat) (p : Path) : (T.l true sz rows).at ((i, f) :: p) = (rows[i]?).bind fun row => (row[f]?).bind fun t => t.at p := by
  rw [T.at]
  cases rows[i]? with
  | none => rfl
  | some row => simp only [Option.bind_some]; cases row[f]? <;> rfl
@[simp] theorem set_cons (o : Bool) (sz : Nat) (rows : List (List T)) (i f : Nat) (p : Path) (s : T) : (T.l o sz rows).set ((i, f) :: p) s = .l o sz (rows.modify i fun row => row.modify f fun t => t.set p s) := rfl
@[simp] theorem modify_set {β : Type} (F : β → β) (r : β) : ∀ (xs : List β) (i : Nat), (xs.set i r).modify i F = xs.set i (F r)
  | [], _ => by simp
  | _ :: _, 0 => by simp
  | x :: xs, i + 1 => by simp [modify_set F r xs i]
@[simp] theorem LCAN_eq : LCAN = 1000000 := rfl
attribute [simp] SV.killAll killAllL evLend lendAs lendA lendL lend1 giveBack backB
@[simp] theorem exec_calll {call : Call} {d f n : Nat} {as : List Opd} {s : St} : exec call ⟨some d, none, .calll f n as⟩ s = evLend call s d f n as := rfl
end AM
