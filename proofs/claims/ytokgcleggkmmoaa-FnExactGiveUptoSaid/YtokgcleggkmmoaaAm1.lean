/- The abstract machine AM, part 1. -/
import Derived.Orders
import Derived.Deep.LoopGhost
import Derived.ProofKit
import Derived.ReadAgain
import Derived.JoinedCond
import Derived.OpenShut
import Derived.Test.YtokgcleggkmmoaaAm0
set_option linter.unusedVariables false
set_option linter.unusedSimpArgs false
namespace AM
open Go

section
variable {P : Program} {w0 w w' : World} {F F' : FS} {Lb : Lent} {bx bx' : BX} {h h' : Heap} {g g' : Gh} {σ : Nat → SV} {tmps : Array Value} {a : Act} {o : Go.Oper}

theorem push_append (acc b : ByteArray) (x : UInt8) : acc.push x ++ b = acc ++ (⟨#[x]⟩ ++ b) := by
  apply ByteArray.ext
  simp [ByteArray.data_append]
theorem bytesOf_spec {w : World} {F : FS} : ∀ {rows : List (List T)} {ws : List Value} {B : List Nat} {b : ByteArray}, bytesOf rows = some b → CR w F rows.flatten ws B →
    ∃ ns : List Int, ws = ns.map (Value.int .u8) ∧ ws.length = rows.length ∧ ∀ acc, ns.foldl (fun r n => r.push (UInt8.ofNat n.toNat)) acc = acc ++ b
  | [], ws, B, b, he, hc => by
    simp only [bytesOf, Option.some.injEq] at he
    subst he
    cases hc
    exact ⟨[], rfl, rfl, fun acc => by simp⟩
  | row :: rs, ws, B, b, he, hc => by
    unfold bytesOf at he
    split at he
    · rename_i heq; cases heq
    · rename_i n rs' heq
      injection heq with h1 h2
      subst h1 h2
      split at he
      · rename_i b' hb'
        obtain rfl := Option.some.inj he
        simp only [List.flatten_cons, List.singleton_append] at hc
        cases hc with
        | v _ _ hc =>
          obtain ⟨ns, rfl, hl, hf⟩ := bytesOf_spec hb' hc
          refine ⟨n :: ns, rfl, by simpa using hl, fun acc => ?_⟩
          rw [List.foldl_cons, hf, push_append]
      · cases he
    · cases he

theorem snd_cvs {s t e : TypeId} {x : Operand} {x' : Opd} {sz : Nat} {rows : List (List T)} {b : ByteArray} (ho : o.op = .convert s t x) (hs : P.underlying s = some (.slice e)) (he : P.underlying e = some (.int .u8)) (ht : P.underlying t = some .string)
    (e1 : opdC P s x = some x') (S : Sm w0 F Lb w ⟨σ, bx, h⟩ a.tmps g) (hx : sview h (x'.ev σ) = some (sz, rows)) (hb : bytesOf rows = some b) : OpOk P w0 F Lb w σ bx h a.tmps (execOp a.eval o) (.c (.v (.string b))) := by
  obtain ⟨ad, cap, ws, B, hv, _, hc, _, hl, hwl⟩ := S.inv.sview (opd_spec e1 S) hx
  obtain ⟨ns, rfl, hn, hf⟩ := bytesOf_spec hb hc
  refine ⟨.string b, w, g, ?_, S, .of_scal rfl⟩
  have hb0 : ByteArray.empty ++ b = b := by simp
  have key : (convert s t (a.eval x)).run P w = .ok (.string b) w := by
    rw [hv, run_convert_bytes_string w s t e ad rows.length cap hs he ht]
    cases ad with
    | none =>
      have h0 := hl.1 rfl
      obtain rfl : ns = [] := by simpa using h0
      have := hf ByteArray.empty
      rw [hb0] at this
      simp at this
      subst this
      simp [Conv.bytesToString]
    | some ad =>
      have h1 := run_loadCells_list (P := P) w ad (ns.map (Value.int .u8)) (hl.2 ad rfl)
      rw [hn] at h1
      rw [run_bytesToString w ad rows.length cap ns h1, hf, hb0]
  simp only [execOp, ho, Sem.run_bind, key, Result.andThen_ok, Sem.run_pure]

theorem veqL_nil {xs ys : List SV} {b : Bool} (hb : veqL [] xs ys = some b) : b = true := by
  match xs, ys, hb with
  | [], [], hb => exact (Option.some.inj hb).symm
theorem veqL_cons {k : Nat} {ks : List Nat} {xs ys : List SV} {b : Bool} (hb : veqL (k :: ks) xs ys = some b) : ∃ u v xs' ys' p q, xs = .c (.v u) :: xs' ∧ ys = .c (.v v) :: ys' ∧ veq k u v = some p ∧ veqL ks xs' ys' = some q ∧ b = (p && q) := by
  match xs, ys, hb with
  | .c (.v u) :: xs', .c (.v v) :: ys', hb =>
    simp only [veqL] at hb
    split at hb
    · rename_i p q hp hq
      exact ⟨u, v, xs', ys', p, q, rfl, rfl, hp, hq, (Option.some.inj hb).symm⟩
    · cases hb
theorem eqF_run : ∀ {fs : List Field} {j : Nat} {ks : List Nat} {xs ys : List SV} {cx cy : Array Value} {b : Bool}, eqFs P j fs = some ks → SRL w F bx h g xs (cx.toList.drop j) → SRL w F bx h g ys (cy.toList.drop j) → veqL ks xs ys = some b →
    ∀ d, (Op.eqFields (d + 1) cx cy fs).run P w = .ok b w
  | [], j, ks, xs, ys, cx, cy, b, hk, hx, hy, hb, d => by
    simp only [eqFs, Option.some.injEq] at hk
    subst hk
    rw [veqL_nil hb]
    simp [Op.eqFields]
  | f :: fs, j, ks, xs, ys, cx, cy, b, hk, hx, hy, hb, d => by
    unfold eqFs at hk
    split at hk
    · rename_i hc
      obtain ⟨hnm, hoff⟩ := hc
      have main : ∀ (kd : Nat) (ks' : List Nat) (dsc : TypeDesc), P.underlying f.type = some dsc → eqFs P (j + 1) fs = some ks' → ks = kd :: ks' → isAggB P f.type = false → (∀ u v p, veq kd u v = some p → (Op.equalIn (d + 1) f.type u v).run P w = .ok p w) →
          (Op.eqFields (d + 1) cx cy (f :: fs)).run P w = .ok b w := by
        intro kd ks' dsc hu hks hkk hag heq
        subst hkk
        obtain ⟨u, v, xs', ys', p, q, rfl, rfl, hp, hq, rfl⟩ := veqL_cons hb
        have hcx : ∃ cx', cx.toList.drop j = u :: cx' ∧ cx.toList.drop (j + 1) = cx' := by
          cases hd : cx.toList.drop j with
          | nil => rw [hd] at hx; cases hx
          | cons u' cx' =>
            rw [hd] at hx
            obtain ⟨rfl, _⟩ := hx.1.scal'
            exact ⟨cx', rfl, by rw [← List.drop_drop, hd]; rfl⟩
        have hcy : ∃ cy', cy.toList.drop j = v :: cy' ∧ cy.toList.drop (j + 1) = cy' := by
          cases hd : cy.toList.drop j with
          | nil => rw [hd] at hy; cases hy
          | cons u' cx' =>
            rw [hd] at hy
            obtain ⟨rfl, _⟩ := hy.1.scal'
            exact ⟨cx', rfl, by rw [← List.drop_drop, hd]; rfl⟩
        obtain ⟨cx', hx1, hx2⟩ := hcx
        obtain ⟨cy', hy1, hy2⟩ := hcy
        have part_of : ∀ (arr : Array Value) (u : Value) (l : List Value), arr.toList.drop j = u :: l → (part f.type arr f.offset).run P w = .ok u w := by
          intro arr u l hd
          have h1 := isAggB_run hu w
          rw [hag] at h1
          have h2 : arr[f.offset]? = some u := by
            rw [hoff]
            have : (arr.toList.drop j)[0]? = some u := by rw [hd]; rfl
            rw [List.getElem?_drop] at this
            simpa using this
          simp [part, h1, h2]
        rw [hx1] at hx
        rw [hy1] at hy
        have ih := eqF_run (j := j + 1) hks (by rw [hx2]; exact hx.2) (by rw [hy2]; exact hy.2) hq d
        simp only [Op.eqFields, hnm, ne_eq, not_false_eq_true, if_true, Sem.run_bind, part_of cx u cx' hx1, part_of cy v cy' hy1, Result.andThen_ok, heq u v p hp]
        cases p with
        | true => simp [ih]
        | false => simp
      split at hk
      · rename_i hu hks
        refine main 0 _ _ hu hks (Option.some.inj hk).symm (by simp [isAggB, hu]) fun u v p hp => ?_
        cases u <;> cases v <;> simp [veq] at hp
        subst hp
        exact run_equalIn_bool w d _ _ _ hu
      · rename_i hu hks
        refine main 1 _ _ hu hks (Option.some.inj hk).symm (by simp [isAggB, hu]) fun u v p hp => ?_
        cases u <;> cases v <;> simp [veq] at hp
        obtain ⟨rfl, rfl⟩ := hp
        exact run_equalIn_int w d _ _ _ _ _ hu
      · rename_i hu hks
        refine main 2 _ _ hu hks (Option.some.inj hk).symm (by simp [isAggB, hu]) fun u v p hp => ?_
        cases u <;> cases v <;> simp [veq] at hp
        subst hp
        rw [run_equalIn_string w d _ _ _ hu, beq_toListBytes]
      · cases hk
    · cases hk

theorem snd_eqa {t : TypeId} {fs : Array Field} {op : BinOp} {x y : Operand} {x' y' : Opd} {ks : List Nat} {xs ys : List SV} {b ng : Bool} (ho : ∃ z, o.op = .binOp op t x y z) (hop : (op = .eql ∧ ng = false) ∨ (op = .neq ∧ ng = true)) (hu : P.underlying t = some (.struct fs))
    (hg : P.eqGuardType P.depth t = false) (hsh : P.stoodInHeld t = false) (hk : eqFs P 0 fs.toList = some ks) (e1 : opdC P t x = some x') (e2 : opdC P t y = some y') (S : Sm w0 F Lb w ⟨σ, bx, h⟩ a.tmps g)
    (hx : x'.ev σ = .a xs) (hy : y'.ev σ = .a ys) (hb : veqL ks xs ys = some b) : OpOk P w0 F Lb w σ bx h a.tmps (execOp a.eval o) (.c (.v (.bool (b != ng)))) := by
  have k1 := opd_spec e1 S
  have k2 := opd_spec e2 S
  rw [hx] at k1
  rw [hy] at k2
  simp only [SR] at k1 k2
  obtain ⟨cx, hcx, _, hsx⟩ := k1
  obtain ⟨cy, hcy, _, hsy⟩ := k2
  have hf : P.fieldsOf t = fs := by simp [Program.fieldsOf, hu]
  have run : (Op.equalIn 10000 t (.agg cx) (.agg cy)).run P w = .ok b w := by
    rw [run_equalIn_agg w 9999 t cx cy (by rw [hf]; exact hu) hsh, hf]
    exact eqF_run hk (by simpa using hsx) (by simpa using hsy) hb 9998
  refine ⟨_, w, g, ?_, S, .of_scal rfl⟩
  obtain ⟨z, ho⟩ := ho
  rcases hop with ⟨rfl, rfl⟩ | ⟨rfl, rfl⟩
  · simp only [execOp, ho, hcx, hcy, Sem.run_bind, run_eqGuard_agg w _ t x y cx cy hg, Result.andThen_ok, run_eql_struct, run, Sem.run_pure]
    simp
  · simp only [execOp, ho, hcx, hcy, Sem.run_bind, run_eqGuard_agg w _ t x y cx cy hg, Result.andThen_ok, run_neq_struct, run, Sem.run_pure]
    simp
end
end AM

namespace AM
open Go

def Op.isCall : Op → Bool
  | .callp .. | .call .. | .calls .. | .calll .. => true
  | _ => false

section
variable {P : Program} {w0 w w' : World} {F F' : FS} {Lb : Lent} {bx bx' : BX} {h h' : Heap} {g g' : Gh} {σ : Nat → SV} {tmps : Array Value} {a : Act} {o : Go.Oper}
variable {call : Call} {H : Hint} {draw : Bool} {ops : List Go.Oper} {i d : Nat} {op : Op} {sv : SV}

theorem ne_false {b : Bool} (h : ¬ b = false) : b = true := by cases b with | true => rfl | false => exact absurd rfl h

abbrev Ev (P : Program) (w0 : World) (F : FS) (Lb : Lent) (o : Go.Oper) (a : Act) (call : Call) (op : Op) (d : Nat) : Prop :=
  ∀ {σ : Nat → SV} {bx bx' : BX} {h h' : Heap} {g : Gh} {w : World} {sv : SV}, Sm w0 F Lb w ⟨σ, bx, h⟩ a.tmps g → evOp call σ bx h d op = some (sv, bx', h') → OpOk P w0 F Lb w σ bx' h' a.tmps (execOp a.eval o) sv

theorem ev_move {x : Operand} (ho : o.op = .move x ∨ o.op = .assign x) (hC : opC P H draw ops i o = some op) : Ev P w0 F Lb o a call op d := by
  intro σ bx bx' h h' g w sv S he
  have hC' : (opdC P o.type x).map .mv = some op := by rcases ho with ho | ho <;> simpa only [opC, ho] using hC
  obtain ⟨y, hy, rfl⟩ := Option.map_eq_some_iff.1 hC'
  simp only [evOp, Option.some.injEq, Prod.mk.injEq] at he
  obtain ⟨rfl, rfl, rfl⟩ := he
  exact snd_mv ho hy S
theorem ev_nil {x : Operand} (ho : o.op = .nilCheck x) (hC : opC P H draw ops i o = some op) : Ev P w0 F Lb o a call op d := by
  intro σ bx bx' h h' g w sv S he
  simp only [opC, ho] at hC
  obtain ⟨y, hy, rfl⟩ := Option.map_eq_some_iff.1 hC
  simp only [evOp] at he
  split at he
  · rename_i id f hv
    simp only [Option.some.injEq, Prod.mk.injEq] at he
    obtain ⟨rfl, rfl, rfl⟩ := he
    exact snd_nil ho hy S hv
  · cases he
theorem ev_pick {c p q : Operand} (ho : o.op = .pick c p q) (hC : opC P H draw ops i o = some op) : Ev P w0 F Lb o a call op d := by
  intro σ bx bx' h h' g w sv S he
  simp only [opC, ho] at hC
  split at hC
  · rename_i c' p' q' h1 h2 h3
    obtain rfl := Option.some.inj hC
    simp only [evOp] at he
    split at he
    · rename_i t hv
      simp only [Option.some.injEq, Prod.mk.injEq] at he
      obtain ⟨rfl, rfl, rfl⟩ := he
      exact snd_pick ho h1 h2 h3 S hv
    · cases he
  · cases hC
theorem ev_alloc {e : TypeId} (ho : o.op = .alloc e) (hC : opC P H draw ops i o = some op) : Ev P w0 F Lb o a call op d := by
  intro σ bx bx' h h' g w sv S he
  simp only [opC, ho] at hC
  obtain ⟨z, hz, rfl⟩ := Option.map_eq_some_iff.1 hC
  simp only [evOp] at he
  split at he
  · rename_i hid
    simp only [Option.some.injEq, Prod.mk.injEq] at he
    obtain ⟨rfl, rfl, rfl⟩ := he
    exact snd_alloc ho hz S hid (by simp [isLent])
  · cases he
theorem ev_box {e : TypeId} {x : Operand} (ho : o.op = .box e x) (hC : opC P H draw ops i o = some op) : Ev P w0 F Lb o a call op d := by
  intro σ bx bx' h h' g w sv S he
  simp only [opC, ho] at hC
  obtain ⟨y, hy, rfl⟩ := Option.map_eq_some_iff.1 hC
  simp only [evOp] at he
  split at he
  · rename_i cs hcs
    split at he
    · rename_i hid
      simp only [Option.some.injEq, Prod.mk.injEq] at he
      obtain ⟨rfl, rfl, rfl⟩ := he
      exact snd_box ho hy S hcs hid (by simp [isLent])
    · cases he
  · cases he
theorem ev_build {t : TypeId} {parts : Array (Nat × Operand)} (ho : o.op = .build t parts) (hC : opC P H draw ops i o = some op) : Ev P w0 F Lb o a call op d := by
  intro σ bx bx' h h' g w sv S he
  simp only [opC, ho] at hC
  split at hC
  · rename_i fs z hu hz
    split at hC
    · cases hC
    · rename_i hall
      obtain ⟨ps, hps, rfl⟩ := Option.map_eq_some_iff.1 hC
      simp only [evOp] at he
      split at he
      · rename_i qs hqs
        split at he
        · rename_i hle
          simp only [Option.some.injEq, Prod.mk.injEq] at he
          obtain ⟨rfl, rfl, rfl⟩ := he
          exact snd_build ho hu hz (ne_false hall) hps S hqs hle
        · cases he
      · cases he
  · cases hC
theorem ev_buildSlice {t : TypeId} {n : Nat} {parts : Array (Nat × Operand)} (ho : o.op = .buildSlice t n parts) (hC : opC P H draw ops i o = some op) : Ev P w0 F Lb o a call op d := by
  intro σ bx bx' h h' g w sv S he
  simp only [opC, ho] at hC
  split at hC
  · rename_i e k hs
    split at hC
    · rename_i z hz
      split at hC
      · rename_i hc
        obtain ⟨ps, hps, hop⟩ := Option.map_eq_some_iff.1 hC
        split at hop
        · subst hop
          simp only [evOp] at he
          split at he
          · rename_i rows hrows
            split at he
            · rename_i hid
              simp only [Option.some.injEq, Prod.mk.injEq] at he
              obtain ⟨rfl, rfl, rfl⟩ := he
              exact snd_mkn ho hs hc.2 hz hc.1 hps S hrows hid (by simp [isLent])
            · cases he
          · cases he
        · subst hop
          simp only [evOp] at he
          split at he
          · rename_i rows h1 hrows
            split at he
            · rename_i hid
              simp only [Option.some.injEq, Prod.mk.injEq] at he
              obtain ⟨rfl, rfl, rfl⟩ := he
              exact snd_mkl ho hs hc.2 hz hc.1 hps S hrows hid (by simp [isLent])
            · cases he
          · cases he
      · cases hC
    · cases hC
  · cases hC
theorem ev_load {t : TypeId} {x : Operand} (ho : o.op = .load t x) (hC : opC P H draw ops i o = some op) : Ev P w0 F Lb o a call op d := by
  intro σ bx bx' h h' g w sv S he
  simp only [opC, ho] at hC
  split at hC
  · cases hC
  · rename_i ag k hsz
    obtain ⟨y, hy, rfl⟩ := Option.map_eq_some_iff.1 hC
    split at he
    · simp only [evOp] at he
      split at he
      · rename_i id p s j f hv
        split at he
        · rename_i sz rows hq
          split at he
          · rename_i hs
            subst hs
            split at he
            · rename_i row hrow
              split at he
              · rename_i ts hts
                obtain ⟨sv', hag, he⟩ := Option.map_eq_some_iff.1 he
                simp only [Prod.mk.injEq] at he
                obtain ⟨rfl, rfl, rfl⟩ := he
                exact snd_ldp ho hsz hy S hv hq hrow hts hag
              · cases he
            · cases he
          · cases he
        · cases he
      · rename_i row f hv
        split at he
        · rename_i ts hts
          obtain ⟨sv', hag, he⟩ := Option.map_eq_some_iff.1 he
          simp only [Prod.mk.injEq] at he
          obtain ⟨rfl, rfl, rfl⟩ := he
          exact snd_ldq ho hsz hy S hv hts hag
        · cases he
      · cases he
    · generalize (if draw = true then apartC H ops i false else []) = ap at he
      generalize (if draw = true then apartC H ops i true else []) = api at he
      simp only [evOp] at he
      split at he
      · rename_i id f hv
        split at he
        · rename_i cs hcs
          split at he
          · rename_i hc
            obtain ⟨sv', hag, he⟩ := Option.map_eq_some_iff.1 he
            simp only [Prod.mk.injEq] at he
            obtain ⟨rfl, rfl, rfl⟩ := he
            exact snd_ldb ho hsz hy S hv hcs hc.1 hag
          · cases he
        · cases he
      · cases he
theorem ev_binOp {bop : BinOp} {t z : TypeId} {x y : Operand} (ho : o.op = .binOp bop t x y z) (hC : opC P H draw ops i o = some op) : Ev P w0 F Lb o a call op d := by
  intro σ bx bx' h h' g w sv S he
  simp only [opC, ho] at hC
  split at hC
  · rename_i x' y' h1 h2
    split at hC
    · rename_i hu
      have key : ∀ ng, ((bop = .eql ∧ ng = false) ∨ (bop = .neq ∧ ng = true)) → op = .binb ng x' y' → OpOk P w0 F Lb w σ bx' h' a.tmps (execOp a.eval o) sv := by
        rintro ng hop rfl
        simp only [evOp] at he
        split at he
        · rename_i p q hp hq
          simp only [Option.some.injEq, Prod.mk.injEq] at he
          obtain ⟨rfl, rfl, rfl⟩ := he
          exact snd_binb ho hop hu h1 h2 S hp hq
        · cases he
      split at hC
      · exact key false (.inl ⟨rfl, rfl⟩) (Option.some.inj hC).symm
      · exact key true (.inr ⟨rfl, rfl⟩) (Option.some.inj hC).symm
      · cases hC
    · rename_i fs hu
      split at hC
      · rename_i hc
        simp only [Bool.and_eq_true, Bool.not_eq_true'] at hc
        have key : ∀ ng ks, ((bop = .eql ∧ ng = false) ∨ (bop = .neq ∧ ng = true)) → eqFs P 0 fs.toList = some ks → op = .eqa ks ng x' y' → OpOk P w0 F Lb w σ bx' h' a.tmps (execOp a.eval o) sv := by
          rintro ng ks hop hks rfl
          simp only [evOp] at he
          split at he
          · rename_i xs ys hp hq
            split at he
            · rename_i b hb
              simp only [Option.some.injEq, Prod.mk.injEq] at he
              obtain ⟨rfl, rfl, rfl⟩ := he
              exact snd_eqa ⟨z, ho⟩ hop hu hc.1 hc.2 hks h1 h2 S hp hq hb
            · cases he
          · cases he
        split at hC
        · rename_i ks hks
          exact key false ks (.inl ⟨rfl, rfl⟩) hks (Option.some.inj hC).symm
        · rename_i ks hks
          exact key true ks (.inr ⟨rfl, rfl⟩) hks (Option.some.inj hC).symm
        · cases hC
      · cases hC
    · obtain rfl := Option.some.inj hC
      simp only [evOp] at he
      split at he
      · rename_i p q hp hq
        obtain ⟨v, hv, he⟩ := Option.map_eq_some_iff.1 he
        simp only [Prod.mk.injEq] at he
        obtain ⟨rfl, rfl, rfl⟩ := he
        exact snd_bin ho h1 h2 S hp hq hv
      · cases he
  · cases hC
theorem ev_unOp {uop : UnOp} {t : TypeId} {x : Operand} (ho : o.op = .unOp uop t x) (hC : opC P H draw ops i o = some op) : Ev P w0 F Lb o a call op d := by
  intro σ bx bx' h h' g w sv S he
  simp only [opC, ho] at hC
  obtain ⟨y, hy, rfl⟩ := Option.map_eq_some_iff.1 hC
  simp only [evOp] at he
  split at he
  · rename_i p hv
    obtain ⟨v, hv2, he⟩ := Option.map_eq_some_iff.1 he
    simp only [Prod.mk.injEq] at he
    obtain ⟨rfl, rfl, rfl⟩ := he
    exact snd_un ho hy S hv hv2
  · cases he
theorem ev_convert {s t : TypeId} {x : Operand} (ho : o.op = .convert s t x) (hC : opC P H draw ops i o = some op) : Ev P w0 F Lb o a call op d := by
  intro σ bx bx' h h' g w sv S he
  simp only [opC, ho] at hC
  split at hC
  · rename_i k0 k hs ht
    obtain ⟨y, hy, rfl⟩ := Option.map_eq_some_iff.1 hC
    simp only [evOp] at he
    split at he
    · rename_i k1 n hv
      simp only [Option.some.injEq, Prod.mk.injEq] at he
      obtain ⟨rfl, rfl, rfl⟩ := he
      exact snd_cvi ho hs ht hy S hv
    · cases he
  · rename_i e hs ht
    split at hC
    · rename_i hu
      obtain ⟨y, hy, rfl⟩ := Option.map_eq_some_iff.1 hC
      simp only [evOp] at he
      split at he
      · rename_i sz rows hv
        split at he
        · rename_i b hb
          simp only [Option.some.injEq, Prod.mk.injEq] at he
          obtain ⟨rfl, rfl, rfl⟩ := he
          exact snd_cvs ho hs hu ht hy S hv hb
        · cases he
      · cases he
    · cases hC
  · cases hC
theorem ev_makeSlice {t : TypeId} {l c : Operand} (ho : o.op = .makeSlice t l c) (hC : opC P H draw ops i o = some op) : Ev P w0 F Lb o a call op d := by
  intro σ bx bx' h h' g w sv S he
  simp only [opC, ho] at hC
  split at hC
  · rename_i e k hs
    split at hC
    · cases hC
    · rename_i hok
      have key : ∀ z n', zeroT P e = some z → opdC P 0 l = some n' → opdC P 0 c = some n' → op = .mks k z n' → OpOk P w0 F Lb w σ bx' h' a.tmps (execOp a.eval o) sv := by
        rintro z n' hz h1 h2 rfl
        simp only [evOp] at he
        split at he
        · rename_i m hm
          split at he
          · rename_i hc
            split at he
            · rename_i hid
              simp only [Option.some.injEq, Prod.mk.injEq] at he
              obtain ⟨rfl, rfl, rfl⟩ := he
              unfold evOp.x3 intOf at hm
              split at hm
              · rename_i kk m' hv
                obtain rfl := Option.some.inj hm
                exact snd_mks ho hs (ne_false hok) hz h1 h2 S hv hc.1 hc.2 hid (by simp [isLent])
              · cases hm
            · cases he
          · cases he
        · cases he
      split at hC
      · rename_i z p q hz h1 h2
        split at hC
        · rename_i hpq
          subst hpq
          exact key z _ hz h1 h2 (Option.some.inj hC).symm
        · cases hC
      · rename_i z k1 p k2 q hz h1 h2
        split at hC
        · rename_i hpq
          obtain ⟨rfl, rfl⟩ := hpq
          exact key z _ hz h1 h2 (Option.some.inj hC).symm
        · cases hC
      · cases hC
  · cases hC
end
end AM

namespace AM
open Go

section
variable {P : Program} {w0 w w' : World} {F F' : FS} {Lb : Lent} {bx bx' : BX} {h h' : Heap} {g g' : Gh} {σ : Nat → SV} {tmps : Array Value} {a : Act} {o : Go.Oper}
variable {call : Call} {H : Hint} {draw : Bool} {ops : List Go.Oper} {i d : Nat} {op : Op} {sv : SV}

theorem ev_slice {t : TypeId} {x : Operand} {lo hi mx : Option Operand} (ho : o.op = .slice t x lo hi mx) (hC : opC P H draw ops i o = some op) : Ev P w0 F Lb o a call op d := by
  intro σ bx bx' h h' g w sv S he
  simp only [opC, ho] at hC
  cases mx with
  | some m => cases hC
  | none =>
    simp only at hC
    split at hC
    · rename_i x' lo' hi' h1 h2 h3
      split at hC
      · rename_i hu
        obtain rfl := Option.some.inj hC
        simp only [evOp] at he
        split at he
        · rename_i s hv
          split at he
          · rename_i l m hl hm
            split at he
            · rename_i hc
              simp only [Option.some.injEq, Prod.mk.injEq] at he
              obtain ⟨rfl, rfl, rfl⟩ := he
              exact snd_slcs ho hu h1 h2 h3 S hv hl hm hc.1 hc.2.1 hc.2.2.1
            · cases he
          · cases he
        · split at he
          · split at he
            · rename_i hc; exact absurd rfl hc.2.2.2.2
            · cases he
          · cases he
        · split at he
          · split at he
            · rename_i hc; exact absurd rfl hc.2.2.2.2
            · cases he
          · cases he
        · cases he
      · rename_i e k hs _
        split at hC
        · cases hC
        · rename_i hk
          obtain rfl := Option.some.inj hC
          simp only [evOp] at he
          split at he
          · split at he
            · split at he
              · rename_i hc; exact absurd hc.2.2.2 hk
              · cases he
            · cases he
          · rename_i ow s rows hv
            split at he
            · rename_i l m hl hm
              split at he
              · rename_i hc
                obtain ⟨c1, c2, c3, rfl, _⟩ := hc
                simp only [Option.some.injEq, Prod.mk.injEq] at he
                obtain ⟨rfl, rfl, rfl⟩ := he
                exact snd_slc ho hs h1 h2 h3 S (.inl ⟨ow, rows, hv, hm, c3, rfl⟩) hl c1 c2
              · cases he
            · cases he
          · rename_i id p s lo0 n hv
            split at he
            · rename_i l m hl hm
              split at he
              · rename_i hc
                obtain ⟨c1, c2, c3, rfl, _⟩ := hc
                simp only [Option.some.injEq, Prod.mk.injEq] at he
                obtain ⟨rfl, rfl, rfl⟩ := he
                exact snd_slc ho hs h1 h2 h3 S (.inr ⟨id, p, lo0, n, hv, hm, c3, rfl⟩) hl c1 c2
              · cases he
            · cases he
          · cases he
      · cases hC
    · cases hC
theorem ev_fieldAddr {s : TypeId} {x : Operand} {f : Nat} (ho : o.op = .fieldAddr s x f) (hC : opC P H draw ops i o = some op) : Ev P w0 F Lb o a call op d := by
  intro σ bx bx' h h' g w sv S he
  simp only [opC, ho] at hC
  split at hC
  · rename_i fl ag k y hf hy
    split at hC
    · cases hC
    · rename_i hk
      obtain rfl := Option.some.inj hC
      simp only [evOp] at he
      split at he
      · rename_i id p z j c hv
        simp only [Option.some.injEq, Prod.mk.injEq] at he
        obtain ⟨rfl, rfl, rfl⟩ := he
        exact snd_fld ho hf hk hy S (.inl ⟨_, _, _, _, _, hv, rfl⟩)
      · simp only [Option.some.injEq, Prod.mk.injEq] at he
        obtain ⟨rfl, rfl, rfl⟩ := he
        rename_i hv
        exact snd_fld ho hf hk hy S (.inr (.inl ⟨_, _, hv, rfl⟩))
      · simp only [Option.some.injEq, Prod.mk.injEq] at he
        obtain ⟨rfl, rfl, rfl⟩ := he
        rename_i hv
        exact snd_fld ho hf hk hy S (.inr (.inr ⟨_, _, hv, rfl⟩))
      · cases he
  · cases hC
theorem ev_field {s : TypeId} {x : Operand} {f : Nat} (ho : o.op = .field s x f) (hC : opC P H draw ops i o = some op) : Ev P w0 F Lb o a call op d := by
  intro σ bx bx' h h' g w sv S he
  simp only [opC, ho] at hC
  split at hC
  · rename_i fl ag k y hf hy
    obtain rfl := Option.some.inj hC
    simp only [evOp] at he
    split at he
    · rename_i cs hv
      split at he
      · rename_i hl
        obtain ⟨sv', hag, he⟩ := Option.map_eq_some_iff.1 he
        simp only [Prod.mk.injEq] at he
        obtain ⟨rfl, rfl, rfl⟩ := he
        exact snd_part ho hf hy S hv hl hag
      · cases he
    · cases he
  · cases hC
theorem intOf_spec {s : SV} {n : Int} (he : intOf s = some n) : ∃ k, s = .c (.v (.int k n)) := by
  unfold intOf at he
  split at he
  · obtain rfl := Option.some.inj he; exact ⟨_, rfl⟩
  · cases he
theorem ev_indexAddr {t : TypeId} {x j : Operand} (ho : o.op = .indexAddr t x j) (hC : opC P H draw ops i o = some op) : Ev P w0 F Lb o a call op d := by
  intro σ bx bx' h h' g w sv S he
  simp only [opC, ho] at hC
  split at hC
  · rename_i e k x' j' hs h1 h2
    obtain rfl := Option.some.inj hC
    simp only [evOp] at he
    split at he
    · rename_i n hn
      obtain ⟨ki, hj⟩ := intOf_spec hn
      split at he
      · rename_i ow s rows hv
        split at he
        · rename_i hc
          obtain ⟨c1, rfl⟩ := hc
          split at he
          · rename_i row hrow
            simp only [Option.some.injEq, Prod.mk.injEq] at he
            obtain ⟨rfl, rfl, rfl⟩ := he
            exact snd_ixa ho hs h1 h2 S hj c1 (.inl ⟨ow, rows, row, hv, hrow, rfl⟩)
          · cases he
        · cases he
      · rename_i id p s lo m hv
        split at he
        · rename_i hc
          obtain ⟨c1, c2, rfl⟩ := hc
          simp only [Option.some.injEq, Prod.mk.injEq] at he
          obtain ⟨rfl, rfl, rfl⟩ := he
          exact snd_ixa ho hs h1 h2 S hj c1 (.inr ⟨id, p, lo, m, hv, c2, rfl⟩)
        · cases he
      · cases he
    · cases he
  · cases hC
theorem ev_index {t : TypeId} {x j : Operand} (ho : o.op = .index t x j) (hC : opC P H draw ops i o = some op) : Ev P w0 F Lb o a call op d := by
  intro σ bx bx' h h' g w sv S he
  simp only [opC, ho] at hC
  split at hC
  · rename_i x' j' hu h1 h2
    obtain rfl := Option.some.inj hC
    simp only [evOp] at he
    split at he
    · rename_i s n hv hn
      obtain ⟨ki, hj⟩ := intOf_spec hn
      split at he
      · rename_i c1
        split at he
        · rename_i b hb
          simp only [Option.some.injEq, Prod.mk.injEq] at he
          obtain ⟨rfl, rfl, rfl⟩ := he
          exact snd_ixs ho hu h1 h2 S hv hj c1 hb
        · cases he
      · cases he
    · cases he
  · cases hC
theorem ev_extract {x : Operand} {j : Nat} (ho : o.op = .extract x j) (hC : opC P H draw ops i o = some op) : Ev P w0 F Lb o a call op d := by
  intro σ bx bx' h h' g w sv S he
  simp only [opC, ho] at hC
  obtain ⟨y, hy, rfl⟩ := Option.map_eq_some_iff.1 hC
  simp only [evOp] at he
  split at he
  · rename_i vs hv
    split at he
    · rename_i s hs
      simp only [Option.some.injEq, Prod.mk.injEq] at he
      obtain ⟨rfl, rfl, rfl⟩ := he
      exact snd_ext ho hy S hv hs
    · cases he
  · cases he
end
end AM

namespace AM
open Go

section
variable {P : Program} {w0 w w' : World} {F F' : FS} {Lb : Lent} {bx bx' : BX} {h h' : Heap} {g g' : Gh} {σ : Nat → SV} {tmps : Array Value} {a : Act} {o : Go.Oper}
variable {call : Call} {H : Hint} {draw : Bool} {ops : List Go.Oper} {i d : Nat} {op : Op} {sv : SV}

theorem ev_len {args : Array Operand} {ats : Array TypeId} (ho : o.op = .call { callee := .builtin .len, args := args, argTypes := ats }) (hC : opC P H draw ops i o = some op) : Ev P w0 F Lb o a call op d := by
  intro σ bx bx' h h' g w sv S he
  simp only [opC, ho] at hC
  split at hC
  · rename_i x t h1 h2
    split at hC
    · rename_i hu
      obtain ⟨y, hy, rfl⟩ := Option.map_eq_some_iff.1 hC
      simp only [evOp] at he
      split at he
      · rename_i s hv
        simp only [Option.some.injEq, Prod.mk.injEq] at he
        obtain ⟨rfl, rfl, rfl⟩ := he
        exact snd_lens ho h1 h2 hu hy S hv
      · cases he
    · rename_i e hu
      obtain ⟨y, hy, rfl⟩ := Option.map_eq_some_iff.1 hC
      simp only [evOp] at he
      split at he
      · rename_i n hv
        simp only [Option.some.injEq, Prod.mk.injEq] at he
        obtain ⟨rfl, rfl, rfl⟩ := he
        exact snd_len ho h1 h2 hu hy S hv
      · cases he
    · cases hC
  · cases hC
theorem ev_max {args : Array Operand} {ats : Array TypeId} (ho : o.op = .call { callee := .builtin .max, args := args, argTypes := ats }) (hC : opC P H draw ops i o = some op) : Ev P w0 F Lb o a call op d := by
  intro σ bx bx' h h' g w sv S he
  simp only [opC, ho] at hC
  split at hC
  · rename_i x y t u h1 h2
    split at hC
    · rename_i k x' y' hu hx hy
      obtain rfl := Option.some.inj hC
      simp only [evOp] at he
      split at he
      · rename_i k1 p k2 q hp hq
        simp only [Option.some.injEq, Prod.mk.injEq] at he
        obtain ⟨rfl, rfl, rfl⟩ := he
        exact snd_max ho h1 hx hy S hp hq
      · cases he
    · cases hC
  · cases hC
theorem ev_append {args : Array Operand} {ats : Array TypeId} (ho : o.op = .call { callee := .builtin .append, args := args, argTypes := ats }) (hd : o.dst = some d) (hC : opC P H draw ops i o = some op) : Ev P w0 F Lb o a call op d := by
  intro σ bx bx' h h' g w sv S he
  simp only [opC, ho] at hC
  split at hC
  · rename_i x y t u h1 h2
    split at hC
    · cases hC
    · rename_i hk0
      have hk : (∃ e', P.underlying u = some (.slice e')) ∨ P.underlying u = some .string := by
        have hk1 := ne_false hk0
        unfold srcTy at hk1
        split at hk1
        · exact .inl ⟨_, by assumption⟩
        · exact .inr (by assumption)
        · cases hk1
      split at hC
      · rename_i e k x' y' hs hx hy
        rw [hd] at hC
        simp only at hC
        split at hC
        · cases hC
        · rename_i hok
          obtain rfl := Option.some.inj hC
          simp only [evOp] at he
          split at he
          · rename_i s0 rows h1' hmv
            split at he
            · rename_i hs0
              subst hs0
              split at he
              · rename_i rs h2' hsrc
                split at he
                · rename_i hlim
                  split at he
                  · rename_i hid
                    simp only [Option.some.injEq, Prod.mk.injEq] at he
                    obtain ⟨rfl, rfl, rfl⟩ := he
                    exact snd_app ho h1 h2 hk hs (ne_false hok) hx hy S hmv hsrc hlim hid (by simp [isLent])
                  · cases he
                · cases he
              · cases he
            · cases he
          · cases he
      · cases hC
  · cases hC

/-- Where an operation leads. -/
def Went (w0 : World) (F : FS) (Lb : Lent) (a : Act) (dst : Option Nat) (s' : St) (a' : Act) (w' : World) : Prop :=
  (∃ v, a' = a.put dst v) ∧ ∃ g', Sm w0 F Lb w' s' a'.tmps g'

theorem OpOk.wp (hd : o.dst = some d) (hl : d < a.tmps.size) (hk : OpOk P w0 F Lb w σ bx' h' a.tmps (execOp a.eval o) sv) (Q : Exit → Act → World → Prop) :
    o.wp P a w (Went w0 F Lb a o.dst ⟨upd σ d sv, bx', h'⟩) Q := by
  obtain ⟨v, w', g', hr, S', hs⟩ := hk
  unfold Oper.wp
  rw [hr, Oper.upon_value]
  refine ⟨⟨v, rfl⟩, g', ?_⟩
  rw [hd]
  exact S'.put hl hs
theorem StOk.wp {s' : St} (hd : o.dst = none) (hk : StOk P w0 F Lb w s' a.tmps (execOp a.eval o)) (Q : Exit → Act → World → Prop) :
    o.wp P a w (Went w0 F Lb a o.dst s') Q := by
  obtain ⟨w', g', hr, S'⟩ := hk
  unfold Oper.wp
  rw [hr, Oper.upon_skip]
  refine ⟨⟨undef, rfl⟩, g', ?_⟩
  rw [hd]
  exact S'

/-- Every operation that is no call. -/
theorem ev_all (hC : opC P H draw ops i o = some op) (hd : o.dst = some d) (hn : op.isCall = false) : Ev P w0 F Lb o a call op d := by
  cases ho : o.op with
  | move x => exact ev_move (.inl ho) hC
  | assign x => exact ev_move (.inr ho) hC
  | nilCheck x => exact ev_nil ho hC
  | pick c p q => exact ev_pick ho hC
  | alloc e => exact ev_alloc ho hC
  | box e x => exact ev_box ho hC
  | build t parts => exact ev_build ho hC
  | buildSlice t n parts => exact ev_buildSlice ho hC
  | load t x => exact ev_load ho hC
  | store t y x => simp [opC, ho, hd] at hC
  | binOp bop t x y z => exact ev_binOp ho hC
  | unOp uop t x => exact ev_unOp ho hC
  | convert s t x => exact ev_convert ho hC
  | makeSlice t l c => exact ev_makeSlice ho hC
  | slice t x lo hi mx => exact ev_slice ho hC
  | fieldAddr s x f => exact ev_fieldAddr ho hC
  | field s x f => exact ev_field ho hC
  | indexAddr t x j => exact ev_indexAddr ho hC
  | index t x j => exact ev_index ho hC
  | extract x j => exact ev_extract ho hC
  | call c =>
    obtain ⟨callee, args, ats⟩ := c
    cases callee with
    | builtin b =>
      cases b with
      | len => exact ev_len ho hC
      | max => exact ev_max ho hC
      | append => exact ev_append ho hd hC
      | copy =>
        intro σ bx bx' h h' g w sv S he
        simp only [opC, ho] at hC
        split at hC
        · split at hC
          · obtain rfl := Option.some.inj hC
            simp [evOp] at he
          · cases hC
        · cases hC
      | _ => simp [opC, ho] at hC
    | value f =>
      cases f with
      | func f =>
        simp only [opC, ho] at hC
        split at hC
        · split at hC
          · obtain ⟨as, _, rfl⟩ := Option.map_eq_some_iff.1 hC
            split at hn
            · cases hn
            · split at hn
              · cases hn
              · split at hn
                · cases hn
                · cases hn
          · cases hC
        · cases hC
      | _ => simp [opC, ho] at hC
    | _ => simp [opC, ho] at hC
  | _ => simp [opC, ho] at hC
end
end AM

namespace AM
open Go

section
variable {P : Program} {w0 w w' : World} {F F' : FS} {Lb : Lent} {bx bx' : BX} {h h' : Heap} {g g' : Gh} {σ : Nat → SV} {tmps : Array Value} {a : Act} {o : Go.Oper}
variable {call : Call} {H : Hint} {draw : Bool} {ops : List Go.Oper} {i d : Nat} {op : Op} {sv : SV}

theorem snd_cpy0 {t u e : TypeId} {x y : Operand} {args : Array Operand} {ats : Array TypeId} {x' y' : Opd} {k s4 : Nat} {ow : Bool} {rows rs : List (List T)} (ho : o.op = .call { callee := .builtin .copy, args := args, argTypes := ats }) (ha : args.toList = [x, y]) (hat : ats.toList = [t, u])
    (he : sliceElem P t = some (e, k)) (e1 : opdC P t x = some x') (e2 : opdC P u y = some y') (S : Sm w0 F Lb w ⟨σ, bx, h⟩ a.tmps g)
    (hx : x'.ev σ = .c (.l ow k rows)) (hy : sview h (y'.ev σ) = some (s4, rs)) (h0 : rows = [] ∨ rs = []) :
    OpOk P w0 F Lb w σ bx h a.tmps (execOp a.eval o) (.c (.v (.int .i64 0))) := by
  obtain rfl : args = #[x, y] := by cases args; simp_all
  obtain rfl : ats = #[t, u] := by cases ats; simp_all
  obtain ⟨hu, d, inf, hd, hinf, hsz⟩ := sliceElem_spec he
  obtain ⟨ad, cap, hv⟩ := slen_look (opd_spec e1 S) (n := rows.length) (by rw [hx]; rfl)
  obtain ⟨ad2, cap2, ws, B, hv2, hcap2, hcr, hur, hlies, hwl⟩ := S.inv.sview (opd_spec e2 S) hy
  have hm : Nat.min rs.length rows.length = 0 := by rcases h0 with rfl | rfl <;> simp
  have fc := firstCells_run (P := P) (w := w) (size := k) (n := 0) (len := rs.length) (cap := cap2) (hlies.take 0) (by simp)
  rw [List.take_zero] at fc
  refine ⟨_, w, g, ?_, S, .of_scal rfl⟩
  cases ad <;> simp [execOp, ho, resolve, invoke, builtin, Builtin.copy_, hv, hv2, run_underlying hu, Builtin.lenOf, sizeOf_run hinf, hsz, hm, fc, goInt, storeCells]

theorem exec_ev {o' : Oper} {s s' : St} (he : exec call o' s = some s') (h1 : ∀ k a x, o'.op ≠ .store k a x) (h2 : ∀ k fr a x, o'.op ≠ .stb k fr a x) (h3 : ∀ sz x y, o'.op ≠ .cpy sz x y) (h4 : ∀ f n as, o'.op ≠ .calll f n as) :
    ∃ d v bx1 hh1, o'.dst = some d ∧ evOp call s.σ s.bx s.h d o'.op = some (v, bx1, hh1) ∧ s' = ⟨upd s.σ d v, bx1, hh1⟩ := by
  unfold exec at he
  split at he
  · rename_i heq; exact absurd heq (h1 _ _ _)
  · rename_i heq; exact absurd heq (h2 _ _ _ _)
  · rename_i heq; exact absurd heq (h3 _ _ _)
  · rename_i heq; exact absurd heq (h4 _ _ _)
  · split at he
    · rename_i d hd
      split at he
      · rename_i v bx1 hh1 hv
        exact ⟨d, v, bx1, hh1, hd, hv, (Option.some.inj he).symm⟩
      · cases he
    · cases he

/-- What opC says of a store. -/
theorem opC_store {k : Nat} {b x' : Opd} (hC : opC P H draw ops i o = some (.store k b x')) : ∃ t y x ag, o.op = .store t y x ∧ o.dst = none ∧ opdC P 0 y = some b ∧ opdC P t x = some x' ∧ szC P t = some (ag, k) := by
  cases ho : o.op with
  | store t y x =>
    simp only [opC, ho] at hC
    split at hC
    · cases hC
    · rename_i hd
      split at hC
      · rename_i b' x2 ag k' h1 h2 h3
        split at hC
        · simp only [Option.some.injEq, Op.store.injEq] at hC
          obtain ⟨rfl, rfl, rfl⟩ := hC
          exact ⟨t, y, x, ag, rfl, by simpa using hd, h1, h2, h3⟩
        · split at hC <;> cases hC
      · cases hC
  | call c =>
    obtain ⟨callee, args, ats⟩ := c
    cases callee with
    | builtin b => cases b <;> simp only [opC, ho] at hC <;> (try cases hC) <;> (repeat' split at hC) <;> simp at hC
    | value f =>
      cases f with
      | func f =>
        simp only [opC, ho] at hC
        repeat' split at hC
        all_goals simp at hC
      | _ => simp [opC, ho] at hC
    | _ => simp [opC, ho] at hC
  | slice t x lo hi mx => cases mx <;> simp only [opC, ho] at hC <;> (try cases hC) <;> (repeat' split at hC) <;> simp at hC
  | _ => 
    simp only [opC, ho] at hC
    repeat' split at hC
    all_goals simp at hC
theorem opC_stb {k n : Nat} {fr : Bool} {x' : Opd} (hC : opC P H draw ops i o = some (.stb k fr n x')) : ∃ t x ag, o.op = .store t (.tmp n) x ∧ o.dst = none ∧ opdC P t x = some x' ∧ szC P t = some (ag, k) := by
  cases ho : o.op with
  | store t y x =>
    simp only [opC, ho] at hC
    split at hC
    · cases hC
    · rename_i hd
      split at hC
      · rename_i b' x2 ag k' h1 h2 h3
        split at hC
        · simp at hC
        · split at hC
          · simp only [Option.some.injEq, Op.stb.injEq] at hC
            obtain ⟨rfl, rfl, rfl, rfl⟩ := hC
            refine ⟨t, x, ag, ?_, by simpa using hd, h2, h3⟩
            cases y with
            | tmp m => simp only [opdC, Option.some.injEq, Opd.t.injEq] at h1; rw [h1]
            | const v => simp [opdC] at h1
            | global _ => simp [opdC] at h1
            | func _ => simp [opdC] at h1
          · cases hC
      · cases hC
  | call c =>
    obtain ⟨callee, args, ats⟩ := c
    cases callee with
    | builtin b => cases b <;> simp only [opC, ho] at hC <;> (try cases hC) <;> (repeat' split at hC) <;> simp at hC
    | value f =>
      cases f with
      | func f =>
        simp only [opC, ho] at hC
        repeat' split at hC
        all_goals simp at hC
      | _ => simp [opC, ho] at hC
    | _ => simp [opC, ho] at hC
  | slice t x lo hi mx => cases mx <;> simp only [opC, ho] at hC <;> (try cases hC) <;> (repeat' split at hC) <;> simp at hC
  | _ => 
    simp only [opC, ho] at hC
    repeat' split at hC
    all_goals simp at hC
theorem opC_cpy {k : Nat} {x' y' : Opd} (hC : opC P H draw ops i o = some (.cpy k x' y')) : ∃ args ats x y t u e, o.op = .call { callee := .builtin .copy, args := args, argTypes := ats } ∧ args.toList = [x, y] ∧ ats.toList = [t, u] ∧ sliceElem P t = some (e, k) ∧ opdC P t x = some x' ∧ opdC P u y = some y' := by
  cases ho : o.op with
  | store t y x =>
    simp only [opC, ho] at hC
    repeat' split at hC
    all_goals simp at hC
  | call c =>
    obtain ⟨callee, args, ats⟩ := c
    cases callee with
    | builtin b =>
      cases b with
      | copy =>
        simp only [opC, ho] at hC
        split at hC
        · rename_i x y t u h1 h2
          split at hC
          · rename_i e k' e2 x2 y2 h3 h4 h5 h6
            simp only [Option.some.injEq, Op.cpy.injEq] at hC
            obtain ⟨rfl, rfl, rfl⟩ := hC
            exact ⟨args, ats, x, y, t, u, e, rfl, h1, h2, h3, h5, h6⟩
          · cases hC
        · cases hC
      | _ => simp only [opC, ho] at hC <;> (try cases hC) <;> (repeat' split at hC) <;> simp at hC
    | value f =>
      cases f with
      | func f =>
        simp only [opC, ho] at hC
        repeat' split at hC
        all_goals simp at hC
      | _ => simp [opC, ho] at hC
    | _ => simp [opC, ho] at hC
  | slice t x lo hi mx => cases mx <;> simp only [opC, ho] at hC <;> (try cases hC) <;> (repeat' split at hC) <;> simp at hC
  | _ => 
    simp only [opC, ho] at hC
    repeat' split at hC
    all_goals simp at hC
theorem opC_call (hC : opC P H draw ops i o = some op) (hn : op.isCall = true) : ∃ f args ats fn as dd, o.op = .call { callee := .value (.func f), args := args, argTypes := ats } ∧ P.funcs[f]? = some fn ∧ o.dst = some dd ∧ (fn.body.isSome = true ∧ (fn.name == "runtime.NumGoroutine") = false) ∧
    args.size = ats.size ∧ fn.params.size = args.size ∧ opsM (fun (p : Operand × TypeId) => opdC P p.2 p.1) (args.toList.zip ats.toList) = some as ∧ (op = .callp f fn.results.size as ∨ op = .call f fn.results.size as ∨ op = .calls f fn.results.size as ∨ op = .calll f fn.results.size as) := by
  cases ho : o.op with
  | store t y x =>
    simp only [opC, ho] at hC
    repeat' split at hC
    all_goals first
      | (cases hC; done)
      | (obtain rfl := Option.some.inj hC; cases hn)
  | call c =>
    obtain ⟨callee, args, ats⟩ := c
    cases callee with
    | builtin b =>
      exfalso
      cases b <;> simp only [opC, ho] at hC <;> (try cases hC) <;> (repeat' split at hC) <;> first
        | (cases hC; done)
        | (obtain rfl := Option.some.inj hC; cases hn)
        | (obtain ⟨_, _, rfl⟩ := Option.map_eq_some_iff.1 hC; cases hn)
    | value f =>
      cases f with
      | func f =>
        simp only [opC, ho] at hC
        split at hC
        · rename_i fn dd hf hd
          split at hC
          · rename_i hc
            obtain ⟨as, has, hop⟩ := Option.map_eq_some_iff.1 hC
            refine ⟨f, args, ats, fn, as, dd, rfl, hf, hd, hc.1, hc.2.1, hc.2.2, has, ?_⟩
            split at hop
            · exact .inr (.inr (.inr hop.symm))
            · split at hop
              · exact .inr (.inr (.inl hop.symm))
              · split at hop
                · exact .inl hop.symm
                · exact .inr (.inl hop.symm)
          · cases hC
        · cases hC
      | _ => simp [opC, ho] at hC
    | _ => simp [opC, ho] at hC
  | slice t x lo hi mx =>
    cases mx <;> simp only [opC, ho] at hC <;> (try cases hC) <;> (repeat' split at hC) <;> first
        | (cases hC; done)
        | (obtain rfl := Option.some.inj hC; cases hn)
  | _ => 
    simp only [opC, ho] at hC
    repeat' split at hC
    all_goals first
      | (cases hC; done)
      | (obtain rfl := Option.some.inj hC; cases hn)
      | (obtain ⟨_, _, rfl⟩ := Option.map_eq_some_iff.1 hC; first | cases hn | (split at hn <;> cases hn))

/-- Every operation that is no call, where it leads. -/
theorem exec_wp {gd : Option (Nat × Bool)} {s s' : St} (hC : opC P H draw ops i o = some op) (hn : op.isCall = false) (hb : ∀ d, o.dst = some d → d < a.tmps.size) (he : exec call ⟨o.dst, gd, op⟩ s = some s') (S : Sm w0 F Lb w s a.tmps g) (Q : Exit → Act → World → Prop) :
    o.wp P a w (Went w0 F Lb a o.dst s') Q := by
  obtain ⟨σ, bx, h⟩ := s
  by_cases h1 : ∃ k b x, op = .store k b x
  · obtain ⟨k, b, x, rfl⟩ := h1
    obtain ⟨t, y, x0, ag, ho, hd, e1, e2, hsz⟩ := opC_store hC
    simp only [exec] at he
    split at he
    · rename_i id p sz j f hp
      split at he
      · rename_i ts hh1 hts
        split at he
        · rename_i sz2 rows hq
          split at he
          · rename_i hs
            subst hs
            split at he
            · rename_i row hrow
              split at he
              · rename_i hl
                obtain rfl := Option.some.inj he
                exact (snd_store ho e1 e2 hsz S hp hts hq hrow hl.1 hl.2).wp hd Q
              · cases he
            · cases he
          · cases he
        · cases he
      · cases he
    · cases he
  by_cases h2 : ∃ k fr n x, op = .stb k fr n x
  · obtain ⟨k, fr, n, x, rfl⟩ := h2
    obtain ⟨t, x0, ag, ho, hd, e2, hsz⟩ := opC_stb hC
    simp only [exec] at he
    split at he
    · rename_i id f hp
      split at he
      · rename_i xs cs hxs hcs
        split at he
        · rename_i hl
          obtain rfl := Option.some.inj he
          exact (snd_stb ho e2 hsz S hp hxs hcs hl.1 hl.2.1).wp hd Q
        · cases he
      · cases he
    · cases he
  by_cases h3 : ∃ sz x y, op = .cpy sz x y
  · obtain ⟨sz, x, y, rfl⟩ := h3
    obtain ⟨args, ats, x0, y0, t, u, e, ho, ha, hat, hs, e1, e2⟩ := opC_cpy hC
    simp only [exec] at he
    split at he
    · rename_i d hd
      split at he
      · rename_i id p s3 lo n s4 rs hx hy
        split at he
        · rename_i s2 rows hq
          split at he
          · rename_i hc
            obtain ⟨c1, rfl, rfl, rfl, c5⟩ := hc
            obtain rfl := Option.some.inj he
            exact (snd_cpy ho ha hat hs e1 e2 S hx hy hq c1 rfl c5).wp hd (hb d hd) Q
          · cases he
        · cases he
      · rename_i ow s2 rows s4 rs hx hy
        split at he
        · rename_i hc
          obtain ⟨rfl, rfl, hc⟩ := hc
          obtain rfl := Option.some.inj he
          exact (snd_cpy0 ho ha hat hs e1 e2 S hx hy hc).wp hd (hb d hd) Q
        · cases he
      · cases he
    · cases he
  obtain ⟨d, v, bx1, hh1, hd, hv, rfl⟩ := exec_ev he (fun k a x e => h1 ⟨k, a, x, e⟩) (fun k fr a x e => h2 ⟨k, fr, a, x, e⟩) (fun sz x y e => h3 ⟨sz, x, y, e⟩) (fun f n as e => by change op = _ at e; rw [e] at hn; cases hn)
  exact (ev_all hC hd hn S hv).wp hd (hb d hd) Q
end
end AM

namespace AM
open Go

/-- Several results. -/
def VRs (w : World) (F : FS) (vs : List V) (v : Value) (B : List Nat) : Prop := (∃ x, vs = [x] ∧ VR w F x v B) ∨ (vs.length ≠ 1 ∧ ∃ arr : Array Value, v = .tuple arr ∧ VRL w F vs arr.toList B)
/-- What lies in the lent boxes. -/
def BoxR (w : World) (F : FS) (bb : Nat → Nat) : Nat → List (List T) → List Nat → Prop
  | _, [], B => B = []
  | k, ts :: tss, B => ∃ B1 B2 arr el, B = B1 ++ B2 ∧ w.heap[bb k]? = some (.cells arr el (0, 0)) ∧ CR w F ts arr.toList B1 ∧ BoxR w F bb (k + 1) tss B2
/-- What a call leaves. -/
def Done (w : World) (F : FS) (Lb : Lent) (w' : World) (hc' : Heap) (vs : List V) (bs : List (List T)) (v : Value) : Prop :=
  ∃ g' bx' B1 B2, Inv w F Lb w' bx' hc' g' ∧ VRs w' F vs v B1 ∧ BoxR w' F Lb.bb 0 bs B2 ∧ (B1 ++ B2).Nodup ∧ (∀ b ∈ B1 ++ B2, Free bx' hc' g' b ∧ (w.heap.size ≤ b ∨ Lb b)) ∧ ∀ j, j < bs.length → ∃ cs, bx' (0, j) = some cs
def bx0 (bs : List (List SV)) : BX := fun id => if id.1 = 0 then bs[id.2]? else none
/-- What is asked of calls. -/
def Good (P : Program) (call : Call) : Prop := ∀ f args hc bs vs hc' bs', call f args hc bs = some (vs, hc', bs') → bs.length ≤ LCAN → ∀ (w : World) (F : FS) (Lb : Lent) (g : Gh) (vals : Array Value),
  Inv w F Lb w (bx0 bs) hc g → SRL w F (bx0 bs) hc g args vals.toList → Calls P f vals w fun
    | .returned v, w' => Done w F Lb w' hc' vs bs' v
    | _, _ => False

section
variable {P : Program} {w0 w w' : World} {F F' : FS} {Lb : Lent} {bx bx' : BX} {h h' : Heap} {g g' : Gh} {σ : Nat → SV} {tmps : Array Value} {a : Act} {o : Go.Oper}
variable {call : Call} {H : Hint} {draw : Bool} {ops : List Go.Oper} {i d : Nat} {op : Op} {sv : SV}

theorem args_spec (S : Sm w0 F Lb w ⟨σ, bx, h⟩ a.tmps g) : ∀ {args : List Operand} {ats : List TypeId} {as : List Opd}, args.length = ats.length → opsM (fun (p : Operand × TypeId) => opdC P p.2 p.1) (args.zip ats) = some as → SRL w F bx h g (as.map (·.ev σ)) (args.map a.eval)
  | [], [], as, _, h1 => by
    simp only [List.zip_nil_left, opsM, Option.some.injEq] at h1
    subst h1
    trivial
  | x :: args, t :: ats, as, hl, h1 => by
    rw [List.zip_cons_cons] at h1
    obtain ⟨y, ys, h2, h3, rfl⟩ := opsM_cons h1
    exact ⟨opd_spec h2 S, args_spec S (by simpa using hl) h3⟩
  | [], _ :: _, _, hl, _ => by simp at hl
  | _ :: _, [], _, hl, _ => by simp at hl

theorem call_run {f : Nat} {args : Array Operand} {ats : Array TypeId} {fn : Func} (ho : o.op = .call { callee := .value (.func f), args := args, argTypes := ats }) (hf : P.funcs[f]? = some fn) (hb : fn.body.isSome = true ∧ (fn.name == "runtime.NumGoroutine") = false) (w : World) :
    (execOp a.eval o).run P w = .ok (.enter f (args.map a.eval)) w := by
  have h1 : fn.body ≠ none := by intro hq; rw [hq] at hb; simp at hb
  have h2 : fn.name ≠ "runtime.NumGoroutine" := by simpa using hb.2
  simp [execOp, ho, resolve, Deferred.ofValue, invoke, callFunc, hf, h1, h2, Act.eval]

theorem VRL.own : ∀ {vs : List V} {l : List Value} {B : List Nat}, ownVs vs = true → VRL w F' vs l B → VRL w F vs l B
  | [], [], _, _, h => h
  | x :: vs, v :: l, B, ho, h => by
    obtain ⟨B1, B2, rfl, h1, h2⟩ := h
    simp only [ownVs, List.all_cons, Bool.and_eq_true] at ho
    refine ⟨B1, B2, rfl, ?_, VRL.own (by simpa [ownVs] using ho.2) h2⟩
    cases x with
    | o t =>
      exact CR.ownF h1 (by simpa [ownL] using ho.1)
    | a ts =>
      obtain ⟨arr, e, h1⟩ := h1
      exact ⟨arr, e, CR.ownF h1 (by simpa using ho.1)⟩
  | [], _ :: _, _, _, h => by cases h
  | _ :: _, [], _, _, h => by cases h
/-- Results as a list, and back. -/
theorem VRs.list {vs : List V} {v : Value} {B : List Nat} (h : VRs w F vs v B) : ∃ l, VRL w F vs l B ∧ ((∃ u, l = [u] ∧ v = u) ∨ (l.length ≠ 1 ∧ v = .tuple l.toArray)) := by
  rcases h with ⟨x, rfl, h⟩ | ⟨hn, arr, rfl, h⟩
  · exact ⟨[v], ⟨B, [], by simp, h, rfl⟩, .inl ⟨v, rfl, rfl⟩⟩
  · refine ⟨arr.toList, h, .inr ⟨?_, by simp⟩⟩
    have : ∀ {vs : List V} {l : List Value} {B : List Nat}, VRL w F vs l B → vs.length = l.length := by
      intro vs
      induction vs with
      | nil => intro l B h; cases l with | nil => rfl | cons _ _ => cases h
      | cons x vs ih => intro l B h; cases l with | nil => cases h | cons u l => obtain ⟨_, _, _, _, h2⟩ := h; simp [ih h2]
    rw [← this h]; exact hn
def slotR (ss : List SV) : SV := match ss with | [s] => s | _ => .t ss
theorem slotR' : ∀ l : List SV, (match l with | [s] => s | ss => SV.t ss) = slotR l
  | [] => rfl
  | [_] => rfl
  | _ :: _ :: _ => rfl
theorem slot_of {ss : List SV} {l : List Value} {v : Value} (hs : SRL w F bx h g ss l) (hv : (∃ u, l = [u] ∧ v = u) ∨ (l.length ≠ 1 ∧ v = .tuple l.toArray)) : SR w F bx h g (slotR ss) v := by
  rcases hv with ⟨u, rfl, rfl⟩ | ⟨hn, rfl⟩
  · match ss, hs with
    | [s], hs => exact hs.1
  · have hl := hs.len
    match ss, hs, hl with
    | [], hs, _ => simp only [slotR, SR]; exact ⟨_, rfl, by simpa using hs⟩
    | [s], hs, hl => simp at hl; omega
    | _ :: _ :: _, hs, _ => simp only [slotR, SR]; exact ⟨_, rfl, by simpa using hs⟩

/-- Nothing is lent. -/
def gh0 : Gh := ⟨fun _ => undef, fun _ => 0, fun _ => [], fun _ => none⟩
def noLent : Lent := ⟨fun _ => False, fun _ => undef, fun _ => 0⟩
theorem Inv.enter (hF : ∀ b, F b → b < w.heap.size) : Inv w F noLent w (bx0 []) (fun _ => none) gh0 :=
  ⟨fun b hb => ⟨hF b hb, fun h => h⟩, fun id t ht => (by cases ht), fun id cs hc => (by simp [bx0] at hc), fun b hb => absurd rfl hb, fun _ _ _ => rfl, Nat.le_refl _, ⟨rfl, rfl⟩, fun _ _ => rfl, fun _ _ => rfl⟩

/-- A call that is shown what it is handed, and hands out what is new. -/
theorem plain_wp {f : Nat} {args : Array Operand} {ats : Array TypeId} {fn : Func} {vs : List V} {as : List SV} {hc' : Heap} {bs' : List (List T)} {K : Act → World → Prop} (hG : Good P call) (ho : o.op = .call { callee := .value (.func f), args := args, argTypes := ats }) (hf : P.funcs[f]? = some fn)
    (hb : fn.body.isSome = true ∧ (fn.name == "runtime.NumGoroutine") = false) (S : Sm w0 F Lb w ⟨σ, bx, h⟩ a.tmps g) (hF : ∀ b, F' b → b < w.heap.size) (hs : ∀ bx' h' g', SRL w F' bx' h' g' as (args.map a.eval).toList) (hcall : call f as (fun _ => none) [] = some (vs, hc', bs')) (Q : Exit → Act → World → Prop)
    (hK : ∀ v w' B l, Sm w0 F Lb w' ⟨σ, bx, h⟩ a.tmps g → VRL w' F' vs l B → ((∃ u, l = [u] ∧ v = u) ∨ (l.length ≠ 1 ∧ v = .tuple l.toArray)) → B.Nodup → (∀ b ∈ B, Free bx h g b ∧ (w0.heap.size ≤ b ∨ Lb b)) → K (a.put o.dst v) w') : o.wp P a w K Q := by
  unfold Oper.wp
  rw [call_run ho hf hb w, Oper.upon_enter]
  refine (hG f as _ [] vs hc' bs' hcall (Nat.zero_le _) w F' noLent gh0 (args.map a.eval) (Inv.enter hF) (hs _ _ _)).mono ?_
  intro e w' hR
  cases e with
  | panicked _ => exact hR.elim
  | outgrown => exact hR.elim
  | returned v =>
    obtain ⟨g', bx', B1, B2, I, hvs, _, hnd, hfr, _⟩ := hR
    have S' : Sm w0 F Lb w' ⟨σ, bx, h⟩ a.tmps g := S.grow (fun b hb => I.fr b hb (fun h => h)) I.sz I.os
    obtain ⟨l, hl, hv⟩ := hvs.list
    refine hK v w' B1 l S' hl hv (List.nodup_append.1 hnd).1 fun b hb => ?_
    have hlt : w.heap.size ≤ b := by
      rcases (hfr b (by simp [hb])).2 with h1 | h1
      · exact h1
      · exact h1.elim
    exact ⟨S.inv.free_new hlt, .inl (Nat.le_trans S.inv.sz hlt)⟩

theorem Sm.shown_lt (S : Sm w0 F Lb w ⟨σ, bx, h⟩ tmps g) : ∀ b, shown F h g b → b < w.heap.size := by
  intro b hb
  rcases hb with hb | ⟨id, t, ht, hm⟩
  · exact Nat.lt_of_lt_of_le (S.inv.FB b hb).1 S.inv.sz
  · exact (S.inv.ls id t ht).1.lt b hm

theorem scal_cr {t : T} {v : Value} {B : List Nat} (hs : t.scal = true) (hc : CR w F' [t] [v] B) : CR w F [t] [v] [] := by
  match t, hs, hc with
  | .u, _, .u _ ho _ => exact .u _ ho .nil
  | .v _, _, .v _ ho _ => exact .v _ ho .nil
theorem scalL_cr : ∀ {ts : List T} {vs : List Value} {B : List Nat}, ts.all T.scal = true → CR w F' ts vs B → CR w F ts vs []
  | [], _, _, _, hc => by cases hc; exact .nil
  | t :: ts, vs, B, hs, hc => by
    simp only [List.all_cons, Bool.and_eq_true] at hs
    obtain ⟨v, vs', B1, B2, rfl, rfl, c1, c2⟩ := hc.uncons
    exact (scal_cr hs.1 c1).append (scalL_cr hs.2 c2)
theorem VRL.scal : ∀ {vs : List V} {l : List Value} {B : List Nat}, scalVs vs = true → VRL w F' vs l B → SRL w F bx h g (vs.map scalS) l
  | [], [], _, _, _ => trivial
  | x :: vs, v :: l, B, ho, hh => by
    obtain ⟨B1, B2, rfl, h1, h2⟩ := hh
    simp only [scalVs, List.all_cons, Bool.and_eq_true] at ho
    refine ⟨?_, VRL.scal (by simpa [scalVs] using ho.2) h2⟩
    cases x with
    | o t =>
      simp only [scalS, SR]
      exact scal_cr (by simpa using ho.1) h1
    | a ts =>
      obtain ⟨arr, e, h1⟩ := h1
      simp only [scalS, SR]
      have := scalL_cr (F := F) (by simpa using ho.1) h1
      exact ⟨arr, e, this.oc, SRL.ofCR this⟩
  | [], _ :: _, _, _, hh => by cases hh
  | _ :: _, [], _, _, hh => by cases hh

/-- The calls that lend nothing. -/
theorem call_wp {s s' : St} {gd : Option (Nat × Bool)} (hG : Good P call) (hC : opC P H draw ops i o = some op) (hn : op.isCall = true) (hnl : ∀ f n as, op ≠ .calll f n as) (hb : ∀ d, o.dst = some d → d < a.tmps.size) (he : exec call ⟨o.dst, gd, op⟩ s = some s') (S : Sm w0 F Lb w s a.tmps g) (Q : Exit → Act → World → Prop) :
    o.wp P a w (Went w0 F Lb a o.dst s') Q := by
  obtain ⟨σ, bx, h⟩ := s
  obtain ⟨f, args, ats, fn, as, dd, ho, hf, hd, hbody, hsz, hpar, has, hop⟩ := opC_call hC hn
  have hargs : SRL w F bx h g (as.map (·.ev σ)) (args.map a.eval).toList := by
    rw [Array.toList_map]
    exact args_spec S (by simpa using hsz) has
  obtain ⟨d, v, bx1, hh1, hd', hv, rfl⟩ := exec_ev he (fun k a x e => by change op = _ at e; rw [e] at hn; cases hn) (fun k fr a x e => by change op = _ at e; rw [e] at hn; cases hn) (fun sz x y e => by change op = _ at e; rw [e] at hn; cases hn) (fun f n as e => hnl f n as e)
  rw [hd] at hd'
  obtain rfl := Option.some.inj hd'
  have hlt := hb dd hd
  rcases hop with rfl | rfl | rfl | rfl
  · -- callp
    simp only [evOp] at hv
    split at hv
    · rename_i as' has'
      split at hv
      · rename_i vs hc' bs' hcall
        split at hv
        · rename_i hvs
          split at hv
          · rename_i ss h1 hgive
            simp only [Option.some.injEq, Prod.mk.injEq] at hv
            obtain ⟨rfl, rfl, rfl⟩ := hv
            refine plain_wp (F' := F) hG ho hf hbody S (fun b hb => Nat.lt_of_lt_of_le (S.inv.FB b hb).1 S.inv.sz) (fun bx' h' g' => hargs.pureAs has' bx' h' g') hcall Q ?_
            intro v w' B l S' hl hv hnd hfr
            obtain ⟨g1, hs1, G⟩ := Sm.giveVs (Nat.succ_ne_zero _) S' hl hnd hfr hgive
            exact ⟨⟨v, rfl⟩, g1, by rw [hd]; exact G.sm.put hlt (slot_of hs1 hv)⟩
          · cases hv
        · cases hv
      · cases hv
    · cases hv
  · simp only [evOp] at hv
    split at hv
    · rename_i as' has'
      split at hv
      · rename_i vs hc' bs' hcall
        split at hv
        · rename_i hvs
          split at hv
          · rename_i ss h1 hgive
            simp only [Option.some.injEq, Prod.mk.injEq] at hv
            obtain ⟨rfl, rfl, rfl⟩ := hv
            refine plain_wp (F' := shown F h g) hG ho hf hbody S S.shown_lt (fun bx' h' g' => S.inv.borAs hargs has' bx' h' g') hcall Q ?_
            intro v w' B l S' hl hv hnd hfr
            obtain ⟨g1, hs1, G⟩ := Sm.giveVs (Nat.succ_ne_zero _) S' (VRL.own hvs.2 hl) hnd hfr hgive
            exact ⟨⟨v, rfl⟩, g1, by rw [hd]; exact G.sm.put hlt (slot_of hs1 hv)⟩
          · cases hv
        · cases hv
      · cases hv
    · cases hv
  · simp only [evOp] at hv
    split at hv
    · rename_i as' has'
      split at hv
      · rename_i vs hc' bs' hcall
        split at hv
        · rename_i hvs
          simp only [Option.some.injEq, Prod.mk.injEq] at hv
          obtain ⟨rfl, rfl, rfl⟩ := hv
          refine plain_wp (F' := shown F h g) hG ho hf hbody S S.shown_lt (fun bx' h' g' => S.inv.borAs hargs has' bx' h' g') hcall Q ?_
          intro v w' B l S' hl hv hnd hfr
          exact ⟨⟨v, rfl⟩, g, by rw [hd]; exact S'.put hlt (by
            have hx : SR w' F bx h g (slotR (vs.map scalS)) v := slot_of (VRL.scal hvs.2 hl) hv
            generalize vs.map scalS = l at hx ⊢
            match l, hx with
            | [], hx => exact hx
            | [s], hx => exact hx
            | _ :: _ :: _, hx => exact hx)⟩
        · cases hv
      · cases hv
    · cases hv
  · exact absurd rfl (hnl _ _ _)
end
end AM

namespace AM
open Go

/-- Every operation goes where AM says. -/
def ExecOk (P : Program) (call : Call) : Prop := ∀ {w0 : World} {F : FS} {Lb : Lent} {w : World} {g : Gh} {a : Act} {o : Go.Oper} {H : Hint} {draw : Bool} {ops : List Go.Oper} {i : Nat} {op : Op} {gd : Option (Nat × Bool)} {s s' : St},
  opC P H draw ops i o = some op → (∀ d, o.dst = some d → d < a.tmps.size) → exec call ⟨o.dst, gd, op⟩ s = some s' → Sm w0 F Lb w s a.tmps g → ∀ Q, o.wp P a w (Went w0 F Lb a o.dst s') Q

/-- By index. -/
def runIdx (call : Call) (os : List Oper) : List Nat → St → Option St
  | [], s => some s
  | i :: l, s => match os[i]? with
    | some o => match execG call o s with
      | some s1 => runIdx call os l s1
      | none => none
    | none => none

section
variable {P : Program} {w0 w w' : World} {F F' : FS} {Lb : Lent} {bx bx' : BX} {h h' : Heap} {g g' : Gh} {σ : Nat → SV} {tmps : Array Value} {a : Act} {o : Go.Oper}
variable {call : Call} {H : Hint} {draw : Bool} {ops : Array Go.Oper} {i d : Nat} {op : Op} {sv : SV}

theorem isB_eq {x : Value} {b : Bool} : x.isB b = true ↔ x = .bool b := by
  cases x <;> simp [Go.Value.isB]

theorem getD_some {tmps : Array Value} {d : Nat} {x : Value} (h : tmps.getD d undef = x) (ho : oc x = true) : tmps[d]? = some x := by
  rw [Array.getD_eq_getD_getElem?] at h
  cases hq : tmps[d]? with
  | none => rw [hq] at h; subst h; cases ho
  | some y => rw [hq] at h; exact congrArg some h

theorem operC_spec {o' : Oper} (hC : operC P H draw ops.toList (o, i) = some o') : ∃ op gd, opC P H draw ops.toList i o = some op ∧ guardC ops.toList o.guard = some gd ∧ o' = ⟨o.dst, gd, op⟩ := by
  unfold operC at hC
  dsimp only at hC
  split at hC
  · rename_i op gd h1 h2
    exact ⟨op, gd, h1, h2, (Option.some.inj hC).symm⟩
  · cases hC

def unw (dst : Option Nat) (s : St) : St := match dst with | some d => { s with σ := upd s.σ d (.t []) } | none => s
theorem Sm.unwanted {s : St} (S : Sm w0 F Lb w s a.tmps g) (dst : Option Nat) (hb : ∀ d, dst = some d → d < a.tmps.size) : Went w0 F Lb a dst (unw dst s) (a.put dst undef) w := by
  refine ⟨⟨undef, rfl⟩, g, ?_⟩
  cases dst with
  | none => exact S
  | some d => exact S.put (hb d rfl) (by simp only [SR]; exact ⟨#[], rfl, trivial⟩)

theorem execG_wp {o' : Oper} {s s' : St} {Q : Exit → Act → World → Prop} (hx : ExecOk P call) (hC : operC P H draw ops.toList (o, i) = some o') (hi : ops[i]? = some o) (hb : ∀ d, o.dst = some d → d < a.tmps.size) (he : execG call o' s = some s') (S : Sm w0 F Lb w s a.tmps g) :
    wpOp P ops Q i (Went w0 F Lb a o.dst s') a w := by
  obtain ⟨op, gd, h1, h2, rfl⟩ := operC_spec hC
  unfold wpOp
  rw [hi]
  simp only
  have main : Region.wanted o (yielded ops a.tmps) = true → exec call ⟨o.dst, gd, op⟩ s = some s' → (if Region.wanted o (yielded ops a.tmps) = true then o.wp P a w (Went w0 F Lb a o.dst s') Q ∨ (o.asks P a w ∧ LetsOut Q) else Went w0 F Lb a o.dst s' (a.put o.dst undef) w) := by
    intro hw hex
    rw [if_pos hw]
    exact .inl (hx h1 hb hex S Q)
  have rest : Region.wanted o (yielded ops a.tmps) = false → s' = unw o.dst s → (if Region.wanted o (yielded ops a.tmps) = true then o.wp P a w (Went w0 F Lb a o.dst s') Q ∨ (o.asks P a w ∧ LetsOut Q) else Went w0 F Lb a o.dst s' (a.put o.dst undef) w) := by
    intro hw hs
    rw [hw, hs, if_neg (by simp)]
    exact S.unwanted o.dst hb
  unfold execG at he
  cases hg : o.guard with
  | none =>
    rw [hg] at h2
    simp only [guardC, Option.some.injEq] at h2
    subst h2
    exact main (by simp [Region.wanted, hg]) he
  | some jb =>
    obtain ⟨j, b⟩ := jb
    rw [hg] at h2
    simp only [guardC] at h2
    split at h2
    · rename_i oj hj
      split at h2
      · rename_i dj hdj
        obtain rfl := Option.some.inj h2
        simp only at he
        have hj' : ops[j]? = some oj := by simpa using hj
        have hyl : ((ops[j]?).bind (·.dst)).bind (a.tmps[·]?) = a.tmps[dj]? := by simp [hj', hdj]
        have hS := S.sl dj
        split at he
        · rename_i x hσ
          rw [hσ] at hS
          obtain ⟨hv, ho⟩ := hS.scal'
          have hv2 := getD_some hv ho
          split at he
          · rename_i hxb
            obtain rfl := isB_eq.1 hxb
            exact main (by simp [Region.wanted, hg, yielded, hyl, hv2]) he
          · rename_i hxb
            refine rest ?_ ?_
            · have hne : yielded ops a.tmps j ≠ some b := by
                unfold yielded
                rw [hyl, hv2]
                cases x <;> simp
                intro e
                subst e
                exact hxb (isB_eq.2 rfl)
              simp [Region.wanted, hg, hne]
            · unfold unw; cases hd : o.dst <;> simp [hd] at he ⊢ <;> exact he.symm
        · rename_i hσ
          rw [hσ] at hS
          simp only [SR] at hS
          obtain ⟨arr, hv, harr⟩ := hS
          refine rest ?_ ?_
          · have hnb : yielded ops a.tmps j ≠ some b := by
              unfold yielded
              rw [hyl]
              rw [Array.getD_eq_getD_getElem?] at hv
              cases hq : a.tmps[dj]? with
              | none => simp
              | some y =>
                rw [hq] at hv
                simp only [Option.getD_some] at hv
                rw [hv]
                simp
            simp [Region.wanted, hg, hnb]
          · unfold unw; cases hd : o.dst <;> simp [hd] at he ⊢ <;> exact he.symm
        · cases he
      · cases h2
    · cases h2

theorem put_size (a : Act) (dst : Option Nat) (v : Value) : (a.put dst v).tmps.size = a.tmps.size := by
  cases dst <;> simp [Act.put]
theorem put_defers (a : Act) (dst : Option Nat) (v : Value) : (a.put dst v).defers = a.defers := by
  cases dst <;> rfl

/-- A region's operations, compiled. -/
def RegC (P : Program) (H : Hint) (draw : Bool) (ops : Array Go.Oper) (os : List Oper) : Prop := ∀ (i : Nat) (o : Go.Oper), ops[i]? = some o → ∃ o', os[i]? = some o' ∧ operC P H draw ops.toList (o, i) = some o'

theorem opsM_get {α β : Type} {f : α → Option β} : ∀ {xs : List α} {ys : List β}, opsM f xs = some ys → ∀ (i : Nat) (x : α), xs[i]? = some x → ∃ y, ys[i]? = some y ∧ f x = some y
  | [], ys, _, i, x, hx => by simp at hx
  | x :: xs, ys, h, i, y, hy => by
    obtain ⟨z, zs, h1, h2, rfl⟩ := opsM_cons h
    cases i with
    | zero => simp only [List.getElem?_cons_zero, Option.some.injEq] at hy ⊢; subst hy; exact ⟨z, rfl, h1⟩
    | succ i => simp only [List.getElem?_cons_succ] at hy ⊢; exact opsM_get h2 i y hy
theorem opsM_len {α β : Type} {f : α → Option β} : ∀ {xs : List α} {ys : List β}, opsM f xs = some ys → ys.length = xs.length
  | [], ys, h => by simp only [opsM, Option.some.injEq] at h; subst h; rfl
  | x :: xs, ys, h => by
    obtain ⟨z, zs, _, h2, rfl⟩ := opsM_cons h
    simp [opsM_len h2]
theorem regC_of {os : List Oper} (h : opsM (operC P H draw ops.toList) ops.toList.zipIdx = some os) : RegC P H draw ops os ∧ os.length = ops.size := by
  refine ⟨fun i o ho => ?_, by rw [opsM_len h]; simp⟩
  exact opsM_get h i (o, i) (by simp [List.getElem?_zipIdx, ho])

theorem idx_wp {os : List Oper} {Q : Exit → Act → World → Prop} (hx : ExecOk P call) (hR : RegC P H draw ops os) (hl : os.length = ops.size) (n : Nat) (hd : ∀ o' ∈ os, ∀ d, o'.dst = some d → d < n) :
    ∀ (l : List Nat) {s s' : St} {a : Act} {w : World} {g : Gh}, runIdx call os l s = some s' → Sm w0 F Lb w s a.tmps g → a.tmps.size = n → a.defers = [] →
    (∀ a' w' g', Sm w0 F Lb w' s' a'.tmps g' → a'.tmps.size = n → a'.defers = [] → Q .normal a' w') → wpOps P ops Q l a w
  | [], s, s', a, w, g, he, S, hn, hdf, hQ => by
    simp only [runIdx, Option.some.injEq] at he
    subst he
    exact hQ a w g S hn hdf
  | i :: l, s, s', a, w, g, he, S, hn, hdf, hQ => by
    rw [wpOps_cons]
    simp only [runIdx] at he
    split at he
    · rename_i o' ho'
      split at he
      · rename_i s1 hs1
        have hi : i < ops.size := by rw [← hl]; exact (List.getElem?_eq_some_iff.1 ho').1
        have hoi : ops[i]? = some ops[i] := by simp [hi]
        obtain ⟨o2, ho2, hC⟩ := hR i ops[i] hoi
        rw [ho'] at ho2
        obtain rfl := Option.some.inj ho2
        have hdst : o'.dst = ops[i].dst := by obtain ⟨_, _, _, _, rfl⟩ := operC_spec hC; rfl
        have hb : ∀ d, ops[i].dst = some d → d < a.tmps.size := fun d hdd => by rw [hn]; exact hd o' (List.mem_of_getElem? ho') d (by rw [hdst]; exact hdd)
        refine wpOp_mono (fun a' w' hW => ?_) (execG_wp hx hC hoi hb hs1 S)
        obtain ⟨⟨v, rfl⟩, g', S'⟩ := hW
        exact idx_wp hx hR hl n hd l he S' (by rw [put_size]; exact hn) (by rw [put_defers]; exact hdf) hQ
      · cases he
    · cases he

theorem runIdx_range (call : Call) (os : List Oper) : ∀ (l : List Oper) (k : Nat) (s : St), (∀ j, l[j]? = os[k + j]?) → runIdx call os (List.range' k l.length) s = runOps call l s
  | [], k, s, _ => rfl
  | o :: l, k, s, h => by
    have h0 : os[k]? = some o := by simpa using (h 0).symm
    simp only [List.length_cons, List.range'_succ, runIdx, h0, runOps]
    cases execG call o s with
    | none => rfl
    | some s1 => exact runIdx_range call os l (k + 1) s1 (fun j => by have := h (j + 1); simpa [Nat.add_assoc, Nat.add_comm 1 j] using this)
end
end AM

namespace AM
open Go

theorem old_new {ids : List Id} {id : Id} (h : (isLent id || ids.contains id) = true) : oldId ids (newId ids id) = some id := by
  unfold newId
  by_cases hl : isLent id = true
  · simp [hl, oldId]
  · have hl' : isLent id = false := by simpa using hl
    rw [hl'] at h
    have hm : id ∈ ids := by simpa using h
    have h1 : isLent (ids.idxOf id, CAN) = false := by simp [isLent]
    rw [hl']
    simp only [Bool.false_eq_true, if_false, oldId, h1, if_true]
    rw [List.getElem?_eq_getElem (List.idxOf_lt_length_of_mem hm)]
    simp
theorem new_old {ids : List Id} {id j : Id} (hn : ids.Nodup) (hnl : ∀ x ∈ ids, isLent x = false) (h : oldId ids id = some j) : newId ids j = id := by
  unfold oldId at h
  split at h
  · rename_i hl
    obtain rfl := Option.some.inj h
    simp [newId, hl]
  · split at h
    · rename_i hc
      have hm : j ∈ ids := List.mem_of_getElem? h
      have hi : ids.idxOf j = id.1 := by
        obtain ⟨hlt, he⟩ := List.getElem?_eq_some_iff.1 h
        rw [← he]
        exact hn.idxOf_getElem _ _
      simp only [newId, hnl j hm, Bool.false_eq_true, if_false, hi]
      rw [← hc]
    · cases h
theorem dedup_ok (l : List Id) : (dedup l).Nodup ∧ ∀ x ∈ dedup l, isLent x = false := by
  have key : ∀ (l acc : List Id), (acc.Nodup ∧ ∀ x ∈ acc, isLent x = false) → ((l.foldl (fun acc id => if isLent id || acc.contains id then acc else acc ++ [id]) acc).Nodup ∧ ∀ x ∈ l.foldl (fun acc id => if isLent id || acc.contains id then acc else acc ++ [id]) acc, isLent x = false) := by
    intro l
    induction l with
    | nil => intro acc h; exact h
    | cons y l ih =>
      intro acc h
      rw [List.foldl_cons]
      apply ih
      split
      · exact h
      · rename_i hc
        simp only [Bool.or_eq_true, not_or, Bool.not_eq_true] at hc
        obtain ⟨h1, h2⟩ := hc
        have h2' : y ∉ acc := by simpa using h2
        refine ⟨List.nodup_append.2 ⟨h.1, by simp, fun a ha b hb e => ?_⟩, fun x hx => ?_⟩
        · simp only [List.mem_singleton] at hb
          subst hb e
          exact h2' ha
        · rcases List.mem_append.1 hx with hx | hx
          · exact h.2 x hx
          · simp only [List.mem_singleton] at hx
            subst hx
            exact h1
  exact key l [] ⟨List.nodup_nil, by simp⟩

section
variable {w0 w w' : World} {F F' : FS} {Lb : Lent} {bx bx' : BX} {h h' : Heap} {g g' : Gh} {σ : Nat → SV} {tmps : Array Value} {ls bs : List Id}

mutual
theorem SR.ren (H1 : ∀ id, (isLent id || ls.contains id) = true → h' (newId ls id) = h id ∧ g'.hd (newId ls id) = g.hd id) (H2 : ∀ id cs, (isLent id || bs.contains id) = true → bx id = some cs → (∃ cs', bx' (newId bs id) = some cs') ∧ g'.bb (newId bs id) = g.bb id) :
    ∀ {s : SV} {v : Value}, SR w F bx h g s v → SR w F bx' h' g' (s.ren ls bs) v
  | .u, _, hs => by simp [SV.ren, SR]
  | .c _, _, hs | .q .., _, hs => by simpa [SV.ren, SR] using hs
  | .r id p sz lo n, v, hs => by
    simp only [SV.ren]
    split
    · rename_i hk
      obtain ⟨e1, e2⟩ := H1 id hk
      simp only [SR] at hs ⊢
      rw [e1, e2]
      exact hs
    · simp [SR]
  | .p id p sz lo n, v, hs => by
    simp only [SV.ren]
    split
    · rename_i hk
      obtain ⟨e1, e2⟩ := H1 id hk
      simp only [SR] at hs ⊢
      rw [e1, e2]
      exact hs
    · simp [SR]
  | .b id f, v, hs => by
    simp only [SV.ren]
    split
    · rename_i hk
      simp only [SR] at hs ⊢
      obtain ⟨⟨cs, hc⟩, hv⟩ := hs
      obtain ⟨e1, e2⟩ := H2 id cs hk hc
      exact ⟨e1, by rw [e2]; exact hv⟩
    · simp [SR]
  | .a cs, v, hs => by
    simp only [SV.ren, SR] at hs ⊢
    obtain ⟨arr, h1, ho, h2⟩ := hs
    exact ⟨arr, h1, ho, SRL.ren H1 H2 h2⟩
  | .t cs, v, hs => by
    simp only [SV.ren, SR] at hs ⊢
    obtain ⟨arr, h1, h2⟩ := hs
    exact ⟨arr, h1, SRL.ren H1 H2 h2⟩
theorem SRL.ren (H1 : ∀ id, (isLent id || ls.contains id) = true → h' (newId ls id) = h id ∧ g'.hd (newId ls id) = g.hd id) (H2 : ∀ id cs, (isLent id || bs.contains id) = true → bx id = some cs → (∃ cs', bx' (newId bs id) = some cs') ∧ g'.bb (newId bs id) = g.bb id) :
    ∀ {ss : List SV} {vs : List Value}, SRL w F bx h g ss vs → SRL w F bx' h' g' (renL ls bs ss) vs
  | [], [], _ => trivial
  | _ :: _, _ :: _, hs => ⟨SR.ren H1 H2 hs.1, SRL.ren H1 H2 hs.2⟩
  | [], _ :: _, hh => by cases hh
  | _ :: _, [], hh => by cases hh
end

theorem setAll_sr {f : Nat → SV} {bx : BX} {h : Heap} {g : Gh} {val : Nat → Value} (hf : ∀ k, SR w F bx h g (f k) (val k)) : ∀ (live : List Nat) (k : Nat), SR w F bx h g (setAll f live k) (val k)
  | [], k => by simp [setAll, SR]
  | j :: live, k => by
    simp only [setAll, upd]
    split
    · rename_i e; subst e; exact hf k
    · exact setAll_sr hf live k

theorem Sm.canon {s : St} (S : Sm w0 F Lb w s tmps g) (nb : Nat) (live : List Nat) : ∃ g', Sm w0 F Lb w (canon nb live s) tmps g' := by
  obtain ⟨σ, bx, h⟩ := s
  have I := S.inv
  unfold AM.canon
  simp only
  generalize hbs : dedup (bxIL (live.map σ)) = bs
  generalize hls : dedup (lsIL (live.map σ) ++ lsIL (cellsOf bx (bs ++ lentB nb))) = ls
  obtain ⟨nb1, nb2⟩ : bs.Nodup ∧ ∀ x ∈ bs, isLent x = false := by rw [← hbs]; exact dedup_ok _
  obtain ⟨nl1, nl2⟩ : ls.Nodup ∧ ∀ x ∈ ls, isLent x = false := by rw [← hls]; exact dedup_ok _
  let g' : Gh := ⟨fun id => match oldId ls id with | some j => g.hd j | none => g.hd id, fun id => match oldId bs id with | some j => g.bb j | none => g.bb id, fun id => match oldId ls id with | some j => g.fp j | none => [],
    fun b => match g.ow b with | some (.inl j) => some (.inl (newId ls j)) | some (.inr j) => some (.inr (newId bs j)) | none => none⟩
  let h' : Heap := fun id => match oldId ls id with | some j => h j | none => none
  let bx' : BX := fun id => match oldId bs id with | some j => (bx j).map (renL ls bs) | none => none
  have H1 : ∀ id, (isLent id || ls.contains id) = true → h' (newId ls id) = h id ∧ g'.hd (newId ls id) = g.hd id := by
    intro id hk
    have e := old_new hk
    exact ⟨by simp only [h', e], by simp only [g', e]⟩
  have H2 : ∀ id cs, (isLent id || bs.contains id) = true → bx id = some cs → (∃ cs', bx' (newId bs id) = some cs') ∧ g'.bb (newId bs id) = g.bb id := by
    intro id cs hk hc
    have e := old_new hk
    exact ⟨⟨_, by simp only [bx', e, hc]; rfl⟩, by simp only [g', e]⟩
  refine ⟨g', ⟨I.FB, fun id t ht => ?_, fun id cs hcs => ?_, fun b hb => ?_, I.fr, I.sz, I.os, fun k hk => ?_, fun k hk => ?_⟩, ?_⟩
  · simp only at ht
    split at ht
    · rename_i j hj
      obtain ⟨h1, h2, h3⟩ := I.ls j t ht
      refine ⟨by simp only [g', hj]; exact h1, by simp only [g', hj]; exact h2, fun b hb => ?_⟩
      simp only [g', hj] at hb ⊢
      rw [h3 b hb]
      simp only [new_old nl1 nl2 hj]
    · cases ht
  · simp only at hcs
    split at hcs
    · rename_i j hj
      obtain ⟨cs0, hcs0, rfl⟩ := Option.map_eq_some_iff.1 hcs
      obtain ⟨k1, arr, el, k2, k3, k4⟩ := I.bs j cs0 hcs0
      refine ⟨?_, arr, el, ?_, k3, SRL.ren H1 H2 k4⟩
      · simp only [g', hj]
        rw [k1]
        simp only [new_old nb1 nb2 hj]
      · simp only [g', hj]; exact k2
    · cases hcs
  · refine I.ow b fun e => hb ?_
    simp only [g', e]
  · have e : oldId ls (0, k) = some (0, k) := by simp [oldId, isLent, hk]
    simp only [g', e]
    exact I.pin.1 k hk
  · have e : oldId bs (0, k) = some (0, k) := by simp [oldId, isLent, hk]
    simp only [g', e]
    exact I.pin.2 k hk
  · intro x
    exact setAll_sr (val := fun k => tmps.getD k undef) (fun k => SR.ren H1 H2 (S.sl k)) live x
end
end AM

namespace AM
open Go

def resM (tmps : Array Value) : ResultVar → Sem Value
  | .tmp t => pure (tmps.getD t undef)
  | .cell a t => do loadVar t (← asAddr (tmps.getD a undef))

section
variable {P : Program} {w0 w w' : World} {F F' : FS} {Lb : Lent} {bx bx' : BX} {h h' : Heap} {g g' : Gh} {σ : Nat → SV} {tmps : Array Value}

theorem results_eq (fn : Func) (tmps : Array Value) (w : World) {l : List Value} (h : (fn.results.toList.mapM (resM tmps)).run P w = .ok l w) :
    (results fn tmps).run P w = .ok (if h : l.toArray.size = 1 then l.toArray[0] else .tuple l.toArray) w := by
  have e : results fn tmps = (Array.mapM (resM tmps) fn.results >>= fun vs => pure (if h : vs.size = 1 then vs[0] else .tuple vs)) := by
    unfold results
    congr 1
  rw [e, Sem.run_bind, Array.mapM_eq_mapM_toList]
  simp [h]

theorem loadBox_run {t : TypeId} {ag : Bool} {k b : Nat} {arr : Array Value} {el : TypeId} {cs : List SV} {sv : SV} (hsz : szC P t = some (ag, k)) (hb : w.heap[b]? = some (.cells arr el (0, 0))) (hs : SRL w F bx h g cs arr.toList) (ho : ∀ x ∈ arr.toList, oc x = true) (hl : cs.length = k) (hag : agg ag cs = some sv) :
    ∃ v, (loadVar t ⟨b, 0, none⟩).run P w = .ok v w ∧ SR w F bx h g sv v := by
  obtain ⟨d, i, hd, hi, hk, rfl⟩ := szC_spec hsz
  have hlen := hs.len
  have hr := arr_range (w := w) (f := 0) (k := k) hb
  rw [List.drop_zero, List.take_of_length_le (by omega)] at hr
  obtain ⟨p1, p2⟩ := loadVar_run hd (cs := arr.toList) (by rw [hi]; simp at hlen ⊢; omega) hr
  rcases agg_some hag with ⟨ha, rfl⟩ | ⟨ha, hcs⟩
  · refine ⟨_, p1 ha, ?_⟩
    simp only [SR]
    exact ⟨_, rfl, by simpa using ho, by simpa using hs⟩
  · rw [hcs] at hs
    have hl2 := hs.len
    obtain ⟨v, hv⟩ : ∃ v, arr.toList = [v] := by
      match hq : arr.toList with
      | [v] => exact ⟨v, rfl⟩
      | [] => rw [hq] at hl2; simp at hl2
      | _ :: _ :: _ => rw [hq] at hl2; simp at hl2
    rw [hv] at hs
    exact ⟨v, p2 ha v hv, hs.1⟩

theorem getRes_spec : ∀ {rvs : List ResultVar} {rs : List RV} {vs : List V} {h h1 : Heap} {g : Gh}, opsM (resC P) rvs = some rs → Sm w0 F Lb w ⟨σ, bx, h⟩ tmps g → getRes σ bx h rs = some (vs, h1) →
    ∃ l g1 B, (rvs.mapM (resM tmps)).run P w = .ok l w ∧ VRL w F vs l B ∧ Mvd w0 F Lb w σ bx tmps h g h1 g1 B
  | [], rs, vs, h, h1, g, hr, S, he => by
    simp only [opsM, Option.some.injEq] at hr
    subst hr
    simp only [getRes, Option.some.injEq, Prod.mk.injEq] at he
    obtain ⟨rfl, rfl⟩ := he
    exact ⟨[], g, [], by simp, rfl, .none S⟩
  | rv :: rvs, rs, vs, h, h1, g, hr, S, he => by
    obtain ⟨y, ys, h2, h3, rfl⟩ := opsM_cons hr
    have step : ∀ {x : SV} {v : Value} {xv : V} {h2' : Heap} {vs' : List V}, (resM tmps rv).run P w = .ok v w → SR w F bx h g x v → mvV h x = some (xv, h2') → getRes σ bx h2' ys = some (vs', h1) →
        ∃ l g1 B, ((rv :: rvs).mapM (resM tmps)).run P w = .ok l w ∧ VRL w F (xv :: vs') l B ∧ Mvd w0 F Lb w σ bx tmps h g h1 g1 B := by
      intro x v xv h2' vs' hrun hs hmv hrest
      obtain ⟨g1, B1, c1, M1⟩ := S.mvV hs hmv
      obtain ⟨l, g2, B2, hl, c2, M2⟩ := getRes_spec h3 M1.sm hrest
      exact ⟨v :: l, g2, B1 ++ B2, by simp [List.mapM_cons, hrun, hl], ⟨B1, B2, rfl, c1, c2⟩, M1.trans M2⟩
    cases rv with
    | tmp n =>
      simp only [resC, Option.some.injEq] at h2
      subst h2
      simp only [getRes] at he
      split at he
      · rename_i xv h2' hmv
        split at he
        · rename_i vs' h3' hrest
          simp only [Option.some.injEq, Prod.mk.injEq] at he
          obtain ⟨rfl, rfl⟩ := he
          exact step (by simp [resM]) (S.sl n) hmv hrest
        · cases he
      · cases he
    | cell n t =>
      simp only [resC] at h2
      split at h2
      · rename_i ag k hsz
        obtain rfl := Option.some.inj h2
        simp only [getRes] at he
        split at he
        · rename_i id hb
          split at he
          · rename_i cs hcs
            split at he
            · rename_i hl
              split at he
              · rename_i x hag
                split at he
                · rename_i xv h2' hmv
                  split at he
                  · rename_i vs' h3' hrest
                    simp only [Option.some.injEq, Prod.mk.injEq] at he
                    obtain ⟨rfl, rfl⟩ := he
                    have hS : SR w F bx h g (σ n) (tmps.getD n undef) := S.sl n
                    rw [hb] at hS
                    simp only [SR] at hS
                    obtain ⟨_, arr, el, ha, hoc, hsr⟩ := S.inv.bs id cs hcs
                    obtain ⟨v, hv, hsv⟩ := loadBox_run hsz ha hsr hoc hl hag
                    have e2 : tmps.getD n undef = .pointer (some ⟨g.bb id, 0, none⟩) := hS.2
                    exact step (v := v) (by simp only [resM, e2, asAddr, Sem.run_bind, Sem.run_pure, Result.andThen_ok, hv]) hsv hmv hrest
                  · cases he
                · cases he
              · cases he
            · cases he
          · cases he
        · cases he
      · cases h2

theorem getB_spec : ∀ {n k : Nat} {bs : List (List T)} {h h1 : Heap} {g : Gh}, k + n ≤ CAN → Sm w0 F Lb w ⟨σ, bx, h⟩ tmps g → getB bx h k n = some (bs, h1) →
    ∃ g1 B, BoxR w F Lb.bb k bs B ∧ Mvd w0 F Lb w σ bx tmps h g h1 g1 B ∧ ∀ j, j < bs.length → ∃ cs, bx (0, k + j) = some cs
  | 0, k, bs, h, h1, g, _, S, he => by
    simp only [getB, Option.some.injEq, Prod.mk.injEq] at he
    obtain ⟨rfl, rfl⟩ := he
    exact ⟨g, [], rfl, .none S, by simp⟩
  | n + 1, k, bs, h, h1, g, hk, S, he => by
    simp only [getB] at he
    split at he
    · rename_i cs hcs
      split at he
      · rename_i ts h2 hmv
        split at he
        · rename_i r h3 hr
          simp only [Option.some.injEq, Prod.mk.injEq] at he
          obtain ⟨rfl, rfl⟩ := he
          obtain ⟨_, arr, el, ha, hoc, hsr⟩ := S.inv.bs (0, k) cs hcs
          obtain ⟨g1, B1, c1, M1⟩ := S.mvL hsr hoc hmv
          obtain ⟨g2, B2, c2, M2, c3⟩ := getB_spec (k := k + 1) (by omega) M1.sm hr
          refine ⟨g2, B1 ++ B2, ⟨B1, B2, arr, el, rfl, ?_, c1, c2⟩, M1.trans M2, fun j hj => ?_⟩
          rotate_left 1
          · cases j with
            | zero => exact ⟨cs, hcs⟩
            | succ j =>
              obtain ⟨cs', h'⟩ := c3 j (by simpa using hj)
              exact ⟨cs', by rw [← h']; congr 2; omega⟩
          rw [← S.inv.pin.2 k (by omega)]
          exact ha
        · cases he
      · cases he
    · cases he

theorem VRL.len : ∀ {vs : List V} {l : List Value} {B : List Nat}, VRL w F vs l B → vs.length = l.length
  | [], [], _, _ => rfl
  | x :: vs, v :: l, B, h => by obtain ⟨_, _, _, _, h2⟩ := h; simp [VRL.len h2]
  | [], _ :: _, _, h => by cases h
  | _ :: _, [], _, h => by cases h

/-- The end of a call. -/
theorem fin_spec {fn : Func} {rs : List RV} {s : St} {nb : Nat} {vs : List V} {hc' : Heap} {bs' : List (List T)} (hr : opsM (resC P) fn.results.toList = some rs) (hn : nb ≤ CAN) (S : Sm w0 F Lb w s tmps g) (he : fin nb rs s = some (vs, hc', bs')) :
    ∃ v, (results fn tmps).run P w = .ok v w ∧ Done w0 F Lb w hc' vs bs' v := by
  obtain ⟨σ, bx, h⟩ := s
  unfold fin at he
  split at he
  · rename_i vs' h1 h1e
    split at he
    · rename_i bs h2 h2e
      simp only [Option.some.injEq, Prod.mk.injEq] at he
      obtain ⟨rfl, rfl, rfl⟩ := he
      obtain ⟨l, g1, B1, hl, c1, M1⟩ := getRes_spec hr S h1e
      obtain ⟨g2, B2, c2, M2, c3⟩ := getB_spec (by omega) M1.sm h2e
      have M := M1.trans M2
      refine ⟨_, results_eq fn tmps w hl, g2, bx, B1, B2, M2.sm.inv, ?_, c2, M.nd, M.fr, fun j hj => by simpa using c3 j hj⟩
      have hlen := c1.len
      match vs', l, c1, hlen with
      | [], [], c1, _ => exact .inr ⟨by simp, #[], by simp, c1⟩
      | [x], [v], c1, _ =>
        obtain ⟨Ba, Bb, rfl, k1, k2⟩ := c1
        obtain rfl : Bb = [] := k2
        rw [List.append_nil]
        exact .inl ⟨x, rfl, by simpa using k1⟩
      | x :: y :: xs, v :: u :: l, c1, _ =>
        refine .inr ⟨by simp, (v :: u :: l).toArray, ?_, by simpa using c1⟩
        rw [dif_neg (by simp)]
    · cases he
  · cases he
end
end AM

namespace AM
open Go

/-- New lists beside a heap. -/
def hadd (h N : Heap) : Heap := fun id => match N id with | some t => some t | none => h id
def addN {α : Type} (N : Heap) (r : Option (α × Heap)) : Option (α × Heap) := r.map fun x => (x.1, hadd x.2 N)
@[simp] theorem addN_none {α : Type} (N : Heap) : addN (α := α) N none = none := rfl
@[simp] theorem addN_some {α : Type} (N : Heap) (a : α) (h : Heap) : addN N (some (a, h)) = some (a, hadd h N) := rfl

section
variable {h N : Heap} {σ : Nat → SV} {bx : BX} {call : Call}

theorem hadd_ne {id : Id} (hn : N id = none) : hadd h N id = h id := by simp [hadd, hn]
theorem hat_hadd {id : Id} {p : Path} (hn : N id = none) : hat (hadd h N) id p = hat h id p := by simp [hat, hadd_ne hn]
theorem hput_hadd {id : Id} {p : Path} {t : T} (hn : N id = none) : hput (hadd h N) id p t = hadd (hput h id p t) N := by
  funext j
  by_cases e : j = id
  · subst e; simp [hput, hadd, hn]
  · simp [hput, hadd, e]
theorem hnew_hadd {id : Id} {t : T} (hn : N id = none) : hnew (hadd h N) id t = hadd (hnew h id t) N := by
  funext j
  by_cases e : j = id
  · subst e; simp [hnew, hadd, hn]
  · simp [hnew, hadd, e]
theorem hput_dom2 {id j : Id} {p : Path} {t : T} : hput h id p t j = none ↔ h j = none := by
  unfold hput
  split
  · rename_i e; subst e; simp
  · exact Iff.rfl

/-- No new list is named. -/
def Av (N : Heap) (l : List Id) : Prop := ∀ id ∈ l, N id = none
theorem Av.app {N : Heap} {a b : List Id} : Av N (a ++ b) ↔ Av N a ∧ Av N b := by
  unfold Av
  constructor
  · intro h; exact ⟨fun id hi => h id (by simp [hi]), fun id hi => h id (by simp [hi])⟩
  · rintro ⟨h1, h2⟩ id hi
    rcases List.mem_append.1 hi with hi | hi
    · exact h1 id hi
    · exact h2 id hi

theorem mv1_add {s : SV} (hs : Av N s.lsI) : mv1 (hadd h N) s = addN N (mv1 h s) := by
  unfold mv1
  split
  · rfl
  · rfl
  · rename_i id p sz lo n
    have hn : N id = none := hs id (by simp [SV.lsI])
    simp only [hat_hadd hn, hput_hadd hn]
    split
    · split <;> rfl
    · rfl
  · rfl
theorem mvL_add : ∀ {ss : List SV} {h : Heap}, Av N (lsIL ss) → mvL (hadd h N) ss = addN N (mvL h ss)
  | [], h, _ => rfl
  | s :: ss, h, hs => by
    simp only [lsIL] at hs
    obtain ⟨h1, h2⟩ := Av.app.1 hs
    simp only [mvL, mv1_add h1]
    cases mv1 h s with
    | none => rfl
    | some r =>
      obtain ⟨t, h3⟩ := r
      simp only [addN_some, mvL_add h2]
      cases mvL h3 ss with
      | none => rfl
      | some r => rfl
theorem mvC_add {s : SV} (hs : Av N s.lsI) : mvC (hadd h N) s = addN N (mvC h s) := by
  unfold mvC
  split
  · exact mvL_add (by simpa [SV.lsI] using hs)
  · rfl
  · rw [mv1_add hs]
    cases mv1 h s with
    | none => rfl
    | some r => rfl
theorem sview_add {s : SV} (hs : Av N s.lsI) : sview (hadd h N) s = sview h s := by
  unfold sview
  split
  · rfl
  · rename_i id p sz lo n
    rw [hat_hadd (hs id (by simp [SV.lsI]))]
  · rfl
theorem bor1_add {s : SV} (hs : Av N s.lsI) : bor1 (hadd h N) s = bor1 h s := by
  unfold bor1
  split
  · rfl
  · rfl
  · rw [sview_add hs]
  · rfl
theorem borL_add : ∀ {ss : List SV}, Av N (lsIL ss) → borL (hadd h N) ss = borL h ss
  | [], _ => rfl
  | s :: ss, hs => by
    simp only [lsIL] at hs
    obtain ⟨h1, h2⟩ := Av.app.1 hs
    simp only [borL, bor1_add h1, borL_add h2]
theorem borA_add {s : SV} (hs : Av N s.lsI) : borA (hadd h N) s = borA h s := by
  unfold borA
  split
  · rw [borL_add (by simpa [SV.lsI] using hs)]
  · rfl
  · rw [bor1_add hs]
theorem borAs_add : ∀ {ss : List SV}, (∀ s ∈ ss, Av N s.lsI) → borAs (hadd h N) ss = borAs h ss
  | [], _ => rfl
  | s :: ss, hs => by
    simp only [borAs, borA_add (hs s List.mem_cons_self), borAs_add (fun x hx => hs x (List.mem_cons_of_mem _ hx))]
theorem rowsV_add {sz : Nat} : ∀ {ps : List (Nat × Opd)} {h : Heap} {rows : List (List T)}, (∀ x ∈ ps.map (·.2), Av N (x.ev σ).lsI) → rowsV σ sz (hadd h N) rows ps = addN N (rowsV σ sz h rows ps)
  | [], h, rows, _ => rfl
  | (i, x) :: ps, h, rows, hs => by
    simp only [List.map_cons, List.mem_cons, forall_eq_or_imp] at hs
    simp only [rowsV, mvC_add hs.1]
    cases mvC h (x.ev σ) with
    | none => rfl
    | some r =>
      obtain ⟨ts, h1⟩ := r
      simp only [addN_some]
      split
      · exact rowsV_add hs.2
      · rfl
theorem appSrc_add {sz : Nat} {mvs : Bool} {s : SV} (hs : Av N s.lsI) : appSrc (hadd h N) sz mvs s = addN N (appSrc h sz mvs s) := by
  unfold appSrc
  split
  · split <;> rfl
  · rename_i id p s2 lo n
    have hn : N id = none := hs id (by simp [SV.lsI])
    split
    · simp only [hat_hadd hn, hput_hadd hn]
      split
      · split <;> rfl
      · rfl
    · rw [sview_add hs]
      split
      · split <;> rfl
      · rfl
  · split <;> rfl
  · rfl
theorem give1_add {id : Id} {t : T} (hn : N id = none) : give1 (hadd h N) id t = addN N (give1 h id t) := by
  unfold give1
  split
  · rw [hadd_ne hn, hnew_hadd hn]
    split <;> rfl
  · rfl
theorem giveL_add {d : Nat} (hn : ∀ j, N (d, j) = none) : ∀ {ts : List T} {h : Heap} {j : Nat}, giveL (hadd h N) d j ts = addN N (giveL h d j ts)
  | [], h, j => rfl
  | t :: ts, h, j => by
    simp only [giveL, give1_add (hn j)]
    cases give1 h (d, j) t with
    | none => rfl
    | some r =>
      obtain ⟨s, h1⟩ := r
      simp only [addN_some, giveL_add hn]
      cases giveL h1 d (j + 1) ts with
      | none => rfl
      | some r => rfl
theorem giveV_add {d j : Nat} (hn : ∀ j, N (d, j) = none) {x : V} : giveV (hadd h N) d j x = addN N (giveV h d j x) := by
  unfold giveV
  split
  · exact give1_add (hn j)
  · rw [giveL_add hn]
    rename_i ts
    cases giveL h d j ts with
    | none => rfl
    | some r => rfl
theorem giveVs_add {d : Nat} (hn : ∀ j, N (d, j) = none) : ∀ {vs : List V} {h : Heap} {j : Nat}, giveVs (hadd h N) d j vs = addN N (giveVs h d j vs)
  | [], h, j => rfl
  | v :: vs, h, j => by
    simp only [giveVs, giveV_add hn]
    cases giveV h d j v with
    | none => rfl
    | some r =>
      obtain ⟨s, h1⟩ := r
      simp only [addN_some, giveVs_add hn]
      cases giveVs h1 d (j + 100) vs with
      | none => rfl
      | some r => rfl

def add3 (N : Heap) (r : Option (SV × BX × Heap)) : Option (SV × BX × Heap) := r.map fun x => (x.1, x.2.1, hadd x.2.2 N)
@[simp] theorem add3_none (N : Heap) : add3 N none = none := rfl
@[simp] theorem add3_some (N : Heap) (v : SV) (b : BX) (h : Heap) : add3 N (some (v, b, h)) = some (v, b, hadd h N) := rfl
end

/-- Which heaps an operation reads: cls 2, 4, 5, 6. -/
theorem evOp_add {call : Call} {σ : Nat → SV} {bx : BX} {h N : Heap} {d : Nat} (hn : ∀ j, N (d + 1, j) = none) {op : Op} (hc : op.cls = 2 ∨ op.cls = 4 ∨ op.cls = 5 ∨ op.cls = 6) (hs : ∀ x ∈ op.opds, Av N (x.ev σ).lsI) :
    evOp call σ bx (hadd h N) d op = add3 N (evOp call σ bx h d op) := by
  cases op <;> try (simp [Op.cls] at hc; done)
  case mkn sz z n ps =>
    simp only [evOp, hadd_ne (hn 0), hnew_hadd (hn 0)]
    split
    · split <;> rfl
    · rfl
  case mkl sz z n ps =>
    simp only [Op.opds] at hs
    simp only [evOp, rowsV_add hs]
    cases rowsV σ sz h (List.replicate n z) ps with
    | none => rfl
    | some r =>
      obtain ⟨rows, h1⟩ := r
      simp only [addN_some, hadd_ne (hn 0), hnew_hadd (hn 0)]
      split <;> rfl
  case load ag k x =>
    have hx := hs x (by simp [Op.opds])
    simp only [evOp]
    split
    · rename_i id p s i f hp
      rw [hat_hadd (hx id (by simp [hp, SV.lsI]))]
      split
      · split
        · split
          · split
            · rename_i ts _
              cases agg ag (svL id p i f ts) <;> rfl
            · rfl
          · rfl
        · rfl
      · rfl
    · split
      · rename_i ts _
        cases agg ag (ts.map .c) <;> rfl
      · rfl
    · rfl
  case cvb x =>
    simp only [evOp, hadd_ne (hn 0), hnew_hadd (hn 0)]
    split
    · split
      · split <;> rfl
      · rfl
    · rfl
  case cvs x =>
    simp only [evOp, sview_add (hs x (by simp [Op.opds]))]
    split
    · split <;> rfl
    · rfl
  case mks sz z n =>
    simp only [evOp, hadd_ne (hn 0), hnew_hadd (hn 0)]
    split
    · split
      · split <;> rfl
      · rfl
    · rfl
  case app sz mvs x y =>
    have hx := hs x (by simp [Op.opds])
    have hy := hs y (by simp [Op.opds])
    simp only [evOp, mv1_add hx]
    cases mv1 h (x.ev σ) with
    | none => rfl
    | some r =>
      obtain ⟨t, h1⟩ := r
      simp only [addN_some]
      split
      · rename_i s0 rows h1' heq
        simp only [Option.some.injEq, Prod.mk.injEq] at heq
        obtain ⟨rfl, rfl⟩ := heq
        simp only [appSrc_add hy]
        split
        · cases appSrc h1 sz mvs (y.ev σ) with
          | none => rfl
          | some r =>
            obtain ⟨rs, h2⟩ := r
            simp only [addN_some, hadd_ne (hn 0), hnew_hadd (hn 0)]
            split
            · split <;> rfl
            · rfl
        · rfl
      · rename_i hne
        split
        · rename_i s0 rows h1' heq
          simp only [Option.some.injEq, Prod.mk.injEq] at heq
          obtain ⟨rfl, rfl⟩ := heq
          exact absurd rfl (hne _ _ _)
        · rfl
  case callp f n as =>
    simp only [evOp]
    split
    · split
      · split
        · rename_i vs _ _ _ _
          rw [giveVs_add (fun j => hn j)]
          cases giveVs h (d + 1) 0 vs with
          | none => rfl
          | some r => rfl
        · rfl
      · rfl
    · rfl
  case call f n as =>
    simp only [evOp]
    rw [borAs_add (by
      intro s hs'
      obtain ⟨x, hx, rfl⟩ := List.mem_map.1 hs'
      exact hs x (by simpa [Op.opds] using hx))]
    split
    · split
      · split
        · rename_i vs _ _ _ _
          rw [giveVs_add (fun j => hn j)]
          cases giveVs h (d + 1) 0 vs with
          | none => rfl
          | some r => rfl
        · rfl
      · rfl
    · rfl
  case calls f n as =>
    simp only [evOp]
    rw [borAs_add (by
      intro s hs'
      obtain ⟨x, hx, rfl⟩ := List.mem_map.1 hs'
      exact hs x (by simpa [Op.opds] using hx))]
    split
    · split
      · split <;> rfl
      · rfl
    · rfl
end AM

namespace AM
open Go

section
variable {h h1 N : Heap} {σ σ' : Nat → SV} {bx bx1 : BX} {call : Call}

theorem mv1_dom {s : SV} {t : T} (he : mv1 h s = some (t, h1)) : (∀ id ∈ s.lsI, h id ≠ none) ∧ ∀ id, h1 id = none ↔ h id = none := by
  unfold mv1 at he
  split at he
  · obtain ⟨rfl, rfl⟩ := Prod.mk.inj (Option.some.inj he); exact ⟨by simp [SV.lsI], fun _ => Iff.rfl⟩
  · obtain ⟨rfl, rfl⟩ := Prod.mk.inj (Option.some.inj he); exact ⟨by simp [SV.lsI], fun _ => Iff.rfl⟩
  · split at he
    · rename_i hq
      split at he
      · obtain ⟨rfl, rfl⟩ := Prod.mk.inj (Option.some.inj he)
        refine ⟨fun j hj hn => ?_, fun j => hput_dom2⟩
        simp only [SV.lsI, List.mem_singleton] at hj
        subst hj
        simp [hat, hn] at hq
      · cases he
    · cases he
  · cases he
theorem mvL_dom : ∀ {ss : List SV} {ts : List T} {h h1 : Heap}, mvL h ss = some (ts, h1) → (∀ id ∈ lsIL ss, h id ≠ none) ∧ ∀ id, h1 id = none ↔ h id = none
  | [], ts, h, h1, he => by
    simp only [mvL, Option.some.injEq, Prod.mk.injEq] at he
    obtain ⟨_, rfl⟩ := he
    exact ⟨by simp [lsIL], fun _ => Iff.rfl⟩
  | s :: ss, ts, h, h1, he => by
    simp only [mvL] at he
    split at he
    · rename_i t h2 h2e
      split at he
      · rename_i ts' h3 h3e
        simp only [Option.some.injEq, Prod.mk.injEq] at he
        obtain ⟨_, rfl⟩ := he
        obtain ⟨a1, a2⟩ := mv1_dom h2e
        obtain ⟨b1, b2⟩ := mvL_dom h3e
        refine ⟨fun id hi => ?_, fun id => (b2 id).trans (a2 id)⟩
        simp only [lsIL, List.mem_append] at hi
        rcases hi with hi | hi
        · exact a1 id hi
        · exact fun hn => b1 id hi ((a2 id).2 hn)
      · cases he
    · cases he
theorem mvC_dom {s : SV} {ts : List T} (he : mvC h s = some (ts, h1)) : (∀ id ∈ s.lsI, h id ≠ none) ∧ ∀ id, h1 id = none ↔ h id = none := by
  unfold mvC at he
  split at he
  · exact mvL_dom he
  · cases he
  · split at he
    · rename_i t h2 h2e
      simp only [Option.some.injEq, Prod.mk.injEq] at he
      obtain ⟨_, rfl⟩ := he
      exact mv1_dom h2e
    · cases he
theorem sview_dom {s : SV} {r} (he : sview h s = some r) : ∀ id ∈ s.lsI, h id ≠ none := by
  unfold sview at he
  split at he
  · simp [SV.lsI]
  · split at he
    · rename_i hq
      intro j hj hn
      simp only [SV.lsI, List.mem_singleton] at hj
      subst hj
      simp [hat, hn] at hq
    · cases he
  · cases he
theorem bor1_dom {s : SV} {r} (he : bor1 h s = some r) : ∀ id ∈ s.lsI, h id ≠ none := by
  unfold bor1 at he
  split at he
  · simp [SV.lsI]
  · simp [SV.lsI]
  · split at he
    · rename_i hq; exact sview_dom hq
    · cases he
  · cases he
theorem borL_dom : ∀ {ss : List SV} {r}, borL h ss = some r → ∀ id ∈ lsIL ss, h id ≠ none
  | [], _, _ => by simp [lsIL]
  | s :: ss, r, he => by
    simp only [borL] at he
    split at he
    · rename_i h1
      split at he
      · rename_i h2
        intro id hi
        simp only [lsIL, List.mem_append] at hi
        rcases hi with hi | hi
        · exact bor1_dom h1 id hi
        · exact borL_dom h2 id hi
      · cases he
    · cases he
theorem borA_dom {s : SV} {r} (he : borA h s = some r) : ∀ id ∈ s.lsI, h id ≠ none := by
  unfold borA at he
  split at he
  · split at he
    · rename_i hq; exact borL_dom hq
    · cases he
  · simp [SV.lsI]
  · split at he
    · rename_i hq; exact bor1_dom hq
    · cases he
theorem borAs_dom : ∀ {ss : List SV} {r}, borAs h ss = some r → ∀ s ∈ ss, ∀ id ∈ s.lsI, h id ≠ none
  | [], _, _ => by simp
  | s :: ss, r, he => by
    simp only [borAs] at he
    split at he
    · rename_i h1
      split at he
      · rename_i h2
        intro x hx
        rcases List.mem_cons.1 hx with rfl | hx
        · exact borA_dom h1
        · exact borAs_dom h2 x hx
      · cases he
    · cases he
theorem rowsV_dom {sz : Nat} : ∀ {ps : List (Nat × Opd)} {h h1 : Heap} {rows r : List (List T)}, rowsV σ sz h rows ps = some (r, h1) → (∀ x ∈ ps.map (·.2), ∀ id ∈ (x.ev σ).lsI, h id ≠ none) ∧ ∀ id, h1 id = none ↔ h id = none
  | [], h, h1, rows, r, he => by
    simp only [rowsV, Option.some.injEq, Prod.mk.injEq] at he
    obtain ⟨_, rfl⟩ := he
    exact ⟨by simp, fun _ => Iff.rfl⟩
  | (i, x) :: ps, h, h1, rows, r, he => by
    simp only [rowsV] at he
    split at he
    · rename_i ts h2 h2e
      split at he
      · obtain ⟨a1, a2⟩ := mvC_dom h2e
        obtain ⟨b1, b2⟩ := rowsV_dom he
        refine ⟨fun y hy => ?_, fun id => (b2 id).trans (a2 id)⟩
        simp only [List.map_cons, List.mem_cons] at hy
        rcases hy with rfl | hy
        · exact a1
        · exact fun id hi hn => b1 y hy id hi ((a2 id).2 hn)
      · cases he
    · cases he
theorem unC_ls {s : SV} {t : T} (he : unC s = some t) : s.lsI = [] := by
  cases s <;> simp [unC] at he <;> rfl
theorem unCs_ls : ∀ {ss : List SV} {ts : List T}, unCs ss = some ts → lsIL ss = []
  | [], _, _ => rfl
  | s :: ss, ts, he => by
    simp only [unCs] at he
    split at he
    · rename_i h1 h2
      simp [lsIL, unC_ls h1, unCs_ls h2]
    · cases he
theorem unA_ls {s : SV} {ts : List T} (he : unA s = some ts) : s.lsI = [] := by
  unfold unA at he
  split at he
  · exact unCs_ls he
  · split at he
    · rename_i hq; exact unC_ls hq
    · cases he
theorem rowsN_ls {sz : Nat} : ∀ {ps : List (Nat × Opd)} {rows r : List (List T)}, rowsN σ sz rows ps = some r → ∀ x ∈ ps.map (·.2), (x.ev σ).lsI = []
  | [], _, _, _ => by simp
  | (i, x) :: ps, rows, r, he => by
    simp only [rowsN] at he
    split at he
    · rename_i ts h2e
      split at he
      · intro y hy
        simp only [List.map_cons, List.mem_cons] at hy
        rcases hy with rfl | hy
        · exact unA_ls h2e
        · exact rowsN_ls he y hy
      · cases he
    · cases he
theorem pureA_ls {s s' : SV} (he : pureA s = some s') : s.lsI = [] := by
  unfold pureA at he
  split at he
  · split at he
    · rename_i hq; exact unCs_ls hq
    · cases he
  · rfl
  · rfl
  · cases he
theorem pureAs_ls : ∀ {ss ss' : List SV}, pureAs ss = some ss' → ∀ s ∈ ss, s.lsI = []
  | [], _, _ => by simp
  | s :: ss, ss', he => by
    simp only [pureAs] at he
    split at he
    · rename_i h1 h2
      intro x hx
      rcases List.mem_cons.1 hx with rfl | hx
      · exact pureA_ls h1
      · exact pureAs_ls h2 x hx
    · cases he
theorem appSrc_dom {sz : Nat} {mvs : Bool} {s : SV} {r} (he : appSrc h sz mvs s = some (r, h1)) : (∀ id ∈ s.lsI, h id ≠ none) ∧ ∀ id, h1 id = none ↔ h id = none := by
  unfold appSrc at he
  split at he
  · split at he
    · obtain ⟨rfl, rfl⟩ := Prod.mk.inj (Option.some.inj he); exact ⟨by simp [SV.lsI], fun _ => Iff.rfl⟩
    · cases he
  · split at he
    · split at he
      · rename_i hq
        split at he
        · obtain ⟨rfl, rfl⟩ := Prod.mk.inj (Option.some.inj he)
          refine ⟨fun j hj hn => ?_, fun j => hput_dom2⟩
          simp only [SV.lsI, List.mem_singleton] at hj
          subst hj
          simp [hat, hn] at hq
        · cases he
      · cases he
    · split at he
      · rename_i hq
        split at he
        · obtain ⟨rfl, rfl⟩ := Prod.mk.inj (Option.some.inj he); exact ⟨sview_dom hq, fun _ => Iff.rfl⟩
        · cases he
      · cases he
  · split at he
    · obtain ⟨rfl, rfl⟩ := Prod.mk.inj (Option.some.inj he); exact ⟨by simp [SV.lsI], fun _ => Iff.rfl⟩
    · cases he
  · cases he

/-- What an operation names was there. -/
theorem evOp_dom {d : Nat} {op : Op} (hc : op.cls = 2 ∨ op.cls = 4 ∨ op.cls = 5 ∨ op.cls = 6) {r} (he : evOp call σ bx h d op = some r) : ∀ x ∈ op.opds, ∀ id ∈ (x.ev σ).lsI, h id ≠ none := by
  cases op <;> try (simp [Op.cls] at hc; done)
  case mkn sz z n ps =>
    simp only [evOp] at he
    split at he
    · rename_i hq
      intro x hx id hi
      rw [rowsN_ls hq x hx] at hi
      cases hi
    · cases he
  case mkl sz z n ps =>
    simp only [evOp] at he
    split at he
    · rename_i hq
      exact (rowsV_dom hq).1
    · cases he
  case load ag k x =>
    simp only [evOp] at he
    intro y hy id hi
    simp only [Op.opds, List.mem_singleton] at hy
    subst hy
    split at he
    · rename_i hp
      split at he
      · rename_i hq
        rw [hp] at hi
        simp only [SV.lsI, List.mem_singleton] at hi
        subst hi
        intro hn
        simp [hat, hn] at hq
      · cases he
    · rename_i hp; rw [hp] at hi; cases hi
    · cases he
  case cvb x =>
    simp only [evOp] at he
    intro y hy id hi
    simp only [Op.opds, List.mem_singleton] at hy
    subst hy
    split at he
    · rename_i hp; rw [hp] at hi; cases hi
    · cases he
  case cvs x =>
    simp only [evOp] at he
    intro y hy
    simp only [Op.opds, List.mem_singleton] at hy
    subst hy
    split at he
    · rename_i hq; exact sview_dom hq
    · cases he
  case mks sz z n =>
    simp only [evOp] at he
    intro y hy id hi
    simp only [Op.opds, List.mem_singleton] at hy
    subst hy
    split at he
    · rename_i hq
      unfold evOp.x3 intOf at hq
      split at hq
      · rename_i hp; rw [hp] at hi; cases hi
      · cases hq
    · cases he
  case app sz mvs x y =>
    simp only [evOp] at he
    split at he
    · rename_i hq
      split at he
      · split at he
        · rename_i hq2
          obtain ⟨a1, a2⟩ := mv1_dom hq
          obtain ⟨b1, b2⟩ := appSrc_dom hq2
          intro z hz
          simp only [Op.opds, List.mem_cons, List.not_mem_nil, or_false] at hz
          rcases hz with rfl | rfl
          · exact a1
          · exact fun id hi hn => b1 id hi ((a2 id).2 hn)
        · cases he
      · cases he
    · cases he
  case callp f n as =>
    simp only [evOp] at he
    split at he
    · rename_i hq
      intro x hx id hi
      rw [pureAs_ls hq _ (List.mem_map.2 ⟨x, hx, rfl⟩)] at hi
      cases hi
    · cases he
  case call f n as =>
    simp only [evOp] at he
    split at he
    · rename_i hq
      exact fun x hx => borAs_dom hq _ (List.mem_map.2 ⟨x, hx, rfl⟩)
    · cases he
  case calls f n as =>
    simp only [evOp] at he
    split at he
    · rename_i hq
      exact fun x hx => borAs_dom hq _ (List.mem_map.2 ⟨x, hx, rfl⟩)
    · cases he

/-! ### What is new -/
def NewAt {α : Type} (d : Nat) (f : Heap → Option (α × Heap)) (h : Heap) (a : α) (h1 : Heap) : Prop :=
  ∃ N : Heap, h1 = hadd h N ∧ (∀ id, N id ≠ none → id.1 = d ∧ h id = none) ∧ ∀ h', (∀ id, N id ≠ none → h' id = none) → f h' = some (a, hadd h' N)
def none1 : Heap := fun _ => none
theorem hadd_none1 (h : Heap) : hadd h none1 = h := rfl
def one1 (id : Id) (t : T) : Heap := fun j => if j = id then some t else none
theorem hnew_one (h : Heap) (id : Id) (t : T) : hnew h id t = hadd h (one1 id t) := by
  funext j
  by_cases e : j = id <;> simp [hnew, hadd, one1, e]
theorem one1_ne {id j : Id} {t : T} (hj : one1 id t j ≠ none) : j = id := by
  unfold one1 at hj
  split at hj
  · assumption
  · exact absurd rfl hj
theorem hadd_assoc (h A B : Heap) : hadd (hadd h A) B = hadd h (hadd A B) := by
  funext j
  simp only [hadd]
  cases B j <;> rfl
theorem hadd_dom {h A : Heap} {id : Id} : hadd h A id ≠ none ↔ h id ≠ none ∨ A id ≠ none := by
  unfold hadd
  cases A id <;> simp
/-- One after another. -/
theorem NewAt.seq {α β γ : Type} {d : Nat} {f : Heap → Option (α × Heap)} {k : α → Heap → Option (β × Heap)} {m : α → β → γ} {h h1 h2 : Heap} {a : α} {b : β} (n1 : NewAt d f h a h1) (n2 : NewAt d (k a) h1 b h2) :
    NewAt d (fun h => match f h with | some (a, h1) => (match k a h1 with | some (b, h2) => some (m a b, h2) | none => none) | none => none) h (m a b) h2 := by
  obtain ⟨A, rfl, a1, a2⟩ := n1
  obtain ⟨B, rfl, b1, b2⟩ := n2
  refine ⟨hadd A B, hadd_assoc _ _ _, fun id hid => ?_, fun h' hh => ?_⟩
  · rcases hadd_dom.1 hid with hA | hB
    · exact a1 id hA
    · obtain ⟨e, hn⟩ := b1 id hB
      refine ⟨e, Classical.byContradiction fun hne => ?_⟩
      exact (hadd_dom.2 (.inl hne)) hn
  · have e1 := a2 h' fun id hA => hh id (hadd_dom.2 (.inl hA))
    have e2 := b2 (hadd h' A) fun id hB => by
      obtain ⟨_, hn⟩ := b1 id hB
      refine Classical.byContradiction fun hne => ?_
      rcases hadd_dom.1 hne with h3 | h3
      · exact h3 (hh id (hadd_dom.2 (.inr hB)))
      · exact (hadd_dom.2 (.inr h3)) hn
    simp only [e1, e2, hadd_assoc]
theorem give1_new {id : Id} {t : T} {s : SV} (he : give1 h id t = some (s, h1)) : NewAt id.1 (fun h => give1 h id t) h s h1 := by
  unfold give1 at he ⊢
  split at he
  · rename_i sz rows
    split at he
    · rename_i hn
      obtain ⟨rfl, rfl⟩ := Prod.mk.inj (Option.some.inj he)
      refine ⟨one1 id _, hnew_one _ _ _, fun j hj => ?_, fun h' hh => ?_⟩
      · obtain rfl := one1_ne hj; exact ⟨rfl, hn⟩
      · have := hh id (by simp [one1])
        simp only [this, hnew_one]
    · cases he
  · rename_i hno
    obtain ⟨rfl, rfl⟩ := Prod.mk.inj (Option.some.inj he)
    exact ⟨none1, rfl, fun j hj => absurd rfl hj, fun h' _ => rfl⟩
theorem giveL_new2 {d : Nat} : ∀ {ts : List T} {h h1 : Heap} {j : Nat} {ss : List SV}, giveL h d j ts = some (ss, h1) → NewAt d (fun h => giveL h d j ts) h ss h1
  | [], h, h1, j, ss, he => by
    simp only [giveL, Option.some.injEq, Prod.mk.injEq] at he
    obtain ⟨rfl, rfl⟩ := he
    exact ⟨none1, rfl, fun j hj => absurd rfl hj, fun h' _ => rfl⟩
  | t :: ts, h, h1, j, ss, he => by
    simp only [giveL] at he
    split at he
    · rename_i s h2 h2e
      split at he
      · rename_i ss' h3 h3e
        simp only [Option.some.injEq, Prod.mk.injEq] at he
        obtain ⟨rfl, rfl⟩ := he
        obtain ⟨N, e1, e2, e3⟩ := NewAt.seq (k := fun _ h => giveL h d (j + 1) ts) (m := fun s ss => s :: ss) (give1_new h2e) (giveL_new2 h3e)
        refine ⟨N, e1, e2, fun h' hh => ?_⟩
        have e4 := e3 h' hh
        dsimp only at e4
        simp only [giveL]
        revert e4
        cases give1 h' (d, j) t with
        | none => intro e4; cases e4
        | some r =>
          obtain ⟨x, h5⟩ := r
          simp only
          cases giveL h5 d (j + 1) ts with
          | none => intro e4; cases e4
          | some r => exact id
      · cases he
    · cases he
theorem giveV_new {d j : Nat} {x : V} {s : SV} (he : giveV h d j x = some (s, h1)) : NewAt d (fun h => giveV h d j x) h s h1 := by
  cases x with
  | o t => exact give1_new he
  | a ts =>
    simp only [giveV] at he
    split at he
    · rename_i ss h2 h2e
      simp only [Option.some.injEq, Prod.mk.injEq] at he
      obtain ⟨rfl, rfl⟩ := he
      obtain ⟨N, e1, e2, e3⟩ := giveL_new2 h2e
      refine ⟨N, e1, e2, fun h' hh => ?_⟩
      simp only [giveV, e3 h' hh]
    · cases he
theorem giveVs_new {d : Nat} : ∀ {vs : List V} {h h1 : Heap} {j : Nat} {ss : List SV}, giveVs h d j vs = some (ss, h1) → NewAt d (fun h => giveVs h d j vs) h ss h1
  | [], h, h1, j, ss, he => by
    simp only [giveVs, Option.some.injEq, Prod.mk.injEq] at he
    obtain ⟨rfl, rfl⟩ := he
    exact ⟨none1, rfl, fun j hj => absurd rfl hj, fun h' _ => rfl⟩
  | v :: vs, h, h1, j, ss, he => by
    simp only [giveVs] at he
    split at he
    · rename_i s h2 h2e
      split at he
      · rename_i ss' h3 h3e
        simp only [Option.some.injEq, Prod.mk.injEq] at he
        obtain ⟨rfl, rfl⟩ := he
        obtain ⟨N, e1, e2, e3⟩ := NewAt.seq (k := fun _ h => giveVs h d (j + 100) vs) (m := fun s ss => s :: ss) (giveV_new h2e) (giveVs_new h3e)
        refine ⟨N, e1, e2, fun h' hh => ?_⟩
        have e4 := e3 h' hh
        dsimp only at e4
        simp only [giveVs]
        revert e4
        cases giveV h' d j v with
        | none => intro e4; cases e4
        | some r =>
          obtain ⟨x, h5⟩ := r
          simp only
          cases giveVs h5 d (j + 100) vs with
          | none => intro e4; cases e4
          | some r => exact id
      · cases he
    · cases he

/-- The operations that make lists and read none. -/
theorem evOp_new4 {d : Nat} {op : Op} (hc : op.cls = 4) {v : SV} (he : evOp call σ bx h d op = some (v, bx1, h1)) :
    ∃ N : Heap, h1 = hadd h N ∧ (∀ id, N id ≠ none → id.1 = d + 1 ∧ h id = none) ∧ ∀ h', (∀ id, N id ≠ none → h' id = none) → evOp call σ bx h' d op = some (v, bx1, hadd h' N) := by
  cases op <;> try (simp [Op.cls] at hc; done)
  case mkn sz z n ps =>
    simp only [evOp] at he ⊢
    split at he
    · rename_i rows hq
      split at he
      · rename_i hn
        simp only [Option.some.injEq, Prod.mk.injEq] at he
        obtain ⟨rfl, rfl, rfl⟩ := he
        refine ⟨one1 (d + 1, 0) _, hnew_one _ _ _, fun j hj => by obtain rfl := one1_ne hj; exact ⟨rfl, hn⟩, fun h' hh => ?_⟩
        have := hh (d + 1, 0) (by simp [one1])
        simp only [hq, this, hnew_one]
      · cases he
    · cases he
  case cvb x =>
    simp only [evOp] at he ⊢
    split at he
    · rename_i s hx
      split at he
      · rename_i hl
        split at he
        · rename_i hn
          simp only [Option.some.injEq, Prod.mk.injEq] at he
          obtain ⟨rfl, rfl, rfl⟩ := he
          refine ⟨one1 (d + 1, 0) _, hnew_one _ _ _, fun j hj => by obtain rfl := one1_ne hj; exact ⟨rfl, hn⟩, fun h' hh => ?_⟩
          have := hh (d + 1, 0) (by simp [one1])
          simp only [hx, hl, if_true, this, hnew_one]
        · cases he
      · cases he
    · cases he
  case mks sz z n =>
    simp only [evOp] at he ⊢
    split at he
    · rename_i m hx
      split at he
      · rename_i hl
        split at he
        · rename_i hn
          simp only [Option.some.injEq, Prod.mk.injEq] at he
          obtain ⟨rfl, rfl, rfl⟩ := he
          refine ⟨one1 (d + 1, 0) _, hnew_one _ _ _, fun j hj => by obtain rfl := one1_ne hj; exact ⟨rfl, hn⟩, fun h' hh => ?_⟩
          have := hh (d + 1, 0) (by simp [one1])
          simp only [hx, if_pos hl, this, hnew_one]
        · cases he
      · cases he
    · cases he
  case callp f n as =>
    simp only [evOp] at he ⊢
    split at he
    · rename_i as' has
      split at he
      · rename_i vs _ _ hcall
        split at he
        · rename_i hl
          split at he
          · rename_i ss h2 h2e
            simp only [Option.some.injEq, Prod.mk.injEq] at he
            obtain ⟨rfl, rfl, rfl⟩ := he
            obtain ⟨M, e1, e2, e3⟩ := giveVs_new h2e
            refine ⟨M, e1, e2, fun h' hh => ?_⟩
            simp only [has, hcall, if_pos hl, e3 h' hh]
          · cases he
        · cases he
      · cases he
    · cases he
/-- .. and those that read some. -/
theorem evOp_new5 {d : Nat} {op : Op} (hc : op.cls = 5) {v : SV} (he : evOp call σ bx h d op = some (v, bx1, h1)) :
    ∃ N : Heap, h1 = hadd h N ∧ (∀ id, N id ≠ none → id.1 = d + 1 ∧ h id = none) := by
  cases op <;> try (simp [Op.cls] at hc; done)
  case call f n as =>
    simp only [evOp] at he
    split at he
    · split at he
      · split at he
        · split at he
          · rename_i ss h2 h2e
            simp only [Option.some.injEq, Prod.mk.injEq] at he
            obtain ⟨rfl, rfl, rfl⟩ := he
            obtain ⟨M, e1, e2, e3⟩ := giveVs_new h2e
            exact ⟨M, e1, e2⟩
          · cases he
        · cases he
      · cases he
    · cases he
theorem evOp_same2 {d : Nat} {op : Op} (hc : op.cls = 2) {v : SV} (he : evOp call σ bx h d op = some (v, bx1, h1)) : h1 = h := by
  cases op <;> try (simp [Op.cls] at hc; done)
  case load ag k x =>
    simp only [evOp] at he
    repeat' split at he
    all_goals first
      | (cases he; done)
      | (obtain ⟨_, _, e⟩ := Option.map_eq_some_iff.1 he; simp only [Prod.mk.injEq] at e; exact e.2.2.symm)
  case cvs x =>
    simp only [evOp] at he
    repeat' split at he
    all_goals first
      | (cases he; done)
      | (simp only [Option.some.injEq, Prod.mk.injEq] at he; exact he.2.2.symm)
  case calls f n as =>
    simp only [evOp] at he
    repeat' split at he
    all_goals first
      | (cases he; done)
      | (simp only [Option.some.injEq, Prod.mk.injEq] at he; exact he.2.2.symm)
/-- Nothing goes, and what comes bears the operation's name. -/
theorem evOp_grow {d : Nat} {op : Op} (hc : op.cls = 2 ∨ op.cls = 4 ∨ op.cls = 5 ∨ op.cls = 6) {v : SV} (he : evOp call σ bx h d op = some (v, bx1, h1)) : (∀ id, h id ≠ none → h1 id ≠ none) ∧ ∀ id, h1 id ≠ none → h id ≠ none ∨ id.1 = d + 1 := by
  have ofN : ∀ {N : Heap}, h1 = hadd h N → (∀ id, N id ≠ none → id.1 = d + 1 ∧ h id = none) → (∀ id, h id ≠ none → h1 id ≠ none) ∧ ∀ id, h1 id ≠ none → h id ≠ none ∨ id.1 = d + 1 := by
    rintro N rfl hN
    refine ⟨fun id hi => hadd_dom.2 (.inl hi), fun id hi => ?_⟩
    rcases hadd_dom.1 hi with h3 | h3
    · exact .inl h3
    · exact .inr (hN id h3).1
  rcases hc with hc | hc | hc | hc
  · obtain rfl := evOp_same2 hc he
    exact ⟨fun _ h => h, fun _ h => .inl h⟩
  · obtain ⟨N, e1, e2, _⟩ := evOp_new4 hc he
    exact ofN e1 e2
  · obtain ⟨N, e1, e2⟩ := evOp_new5 hc he
    exact ofN e1 e2
  · have ofM : ∀ {h2 : Heap} {t : T}, (∀ id, h2 id = none ↔ h id = none) → h1 = hnew h2 (d + 1, 0) t → (∀ id, h id ≠ none → h1 id ≠ none) ∧ ∀ id, h1 id ≠ none → h id ≠ none ∨ id.1 = d + 1 := by
      rintro h2 t hd rfl
      refine ⟨fun id hi => ?_, fun id hi => ?_⟩
      · unfold hnew
        split
        · simp
        · exact fun hn => hi ((hd id).1 hn)
      · unfold hnew at hi
        split at hi
        · rename_i e; exact .inr (by rw [e])
        · exact .inl fun hn => hi ((hd id).2 hn)
    cases op <;> try (simp [Op.cls] at hc; done)
    case mkl sz z n ps =>
      simp only [evOp] at he
      split at he
      · rename_i hq
        split at he
        · simp only [Option.some.injEq, Prod.mk.injEq] at he
          exact ofM (rowsV_dom hq).2 he.2.2.symm
        · cases he
      · cases he
    case app sz mvs x y =>
      simp only [evOp] at he
      split at he
      · rename_i hq
        split at he
        · split at he
          · rename_i hq2
            split at he
            · split at he
              · simp only [Option.some.injEq, Prod.mk.injEq] at he
                exact ofM (fun id => ((appSrc_dom hq2).2 id).trans ((mv1_dom hq).2 id)) he.2.2.symm
              · cases he
            · cases he
          · cases he
        · cases he
      · cases he

/-! ### What an operation does not look at -/
theorem evOp_bx {d : Nat} {op : Op} (hc : op.cls = 2 ∨ op.cls = 4 ∨ op.cls = 5 ∨ op.cls = 6) (bx' : BX) : evOp call σ bx' h d op = (evOp call σ bx h d op).map fun r => (r.1, bx', r.2.2) := by
  cases op <;> try (simp [Op.cls] at hc; done)
  all_goals
    simp only [evOp]
    repeat' split
  all_goals first
    | rfl
    | (simp [Option.map_map]; done)
    | (simp [Option.map_map, Function.comp_def]; done)
theorem evOp_c0 {d : Nat} {op : Op} (hc : op.cls = 0) (bx' : BX) (h' : Heap) : evOp call σ bx' h' d op = (evOp call σ bx h d op).map fun r => (r.1, bx', h') := by
  cases op <;> try (simp [Op.cls] at hc; done)
  all_goals
    simp only [evOp]
    repeat' split
  all_goals first
    | rfl
    | (simp [Option.map_map, Function.comp_def]; done)
theorem evOp_c1 {d : Nat} {op : Op} (hc : op.cls = 1 ∨ op.cls = 3) (h' : Heap) : evOp call σ bx h' d op = (evOp call σ bx h d op).map fun r => (r.1, r.2.1, h') := by
  cases op <;> try (simp [Op.cls] at hc; done)
  all_goals
    simp only [evOp]
    repeat' split
  all_goals first
    | rfl
    | (simp [Option.map_map, Function.comp_def]; done)
end
end AM

namespace AM
open Go

section
variable {h h1 N : Heap} {σ σ' : Nat → SV} {bx bx1 : BX} {call : Call}

theorem ev_congr {x : Opd} (h : ∀ n ∈ x.slot, σ n = σ' n) : x.ev σ = x.ev σ' := by
  cases x with
  | t n => exact h n (by simp [Opd.slot])
  | c s => rfl
theorem partsV_congr : ∀ {ps : List (Nat × Nat × Opd)}, (∀ x ∈ ps.map (fun p => p.2.2), x.ev σ = x.ev σ') → partsV σ ps = partsV σ' ps
  | [], _ => rfl
  | (o, k, x) :: ps, h => by
    simp only [List.map_cons, List.mem_cons, forall_eq_or_imp] at h
    simp only [partsV, h.1, partsV_congr h.2]
theorem rowsN_congr {sz : Nat} : ∀ {ps : List (Nat × Opd)} {rows : List (List T)}, (∀ x ∈ ps.map (·.2), x.ev σ = x.ev σ') → rowsN σ sz rows ps = rowsN σ' sz rows ps
  | [], _, _ => rfl
  | (i, x) :: ps, rows, h => by
    simp only [List.map_cons, List.mem_cons, forall_eq_or_imp] at h
    simp only [rowsN, h.1]
    split
    · split
      · exact rowsN_congr h.2
      · rfl
    · rfl
theorem rowsV_congr {sz : Nat} : ∀ {ps : List (Nat × Opd)} {h : Heap} {rows : List (List T)}, (∀ x ∈ ps.map (·.2), x.ev σ = x.ev σ') → rowsV σ sz h rows ps = rowsV σ' sz h rows ps
  | [], _, _, _ => rfl
  | (i, x) :: ps, h, rows, hh => by
    simp only [List.map_cons, List.mem_cons, forall_eq_or_imp] at hh
    simp only [rowsV, hh.1]
    split
    · split
      · exact rowsV_congr hh.2
      · rfl
    · rfl
theorem opds_slots {op : Op} {x : Opd} (hx : x ∈ op.opds) {n : Nat} (hn : n ∈ x.slot) : n ∈ op.slots := by
  cases op
  case build z ps => simp only [Op.opds, Op.slots, List.mem_map, List.mem_flatMap] at *; obtain ⟨p, hp, rfl⟩ := hx; exact ⟨p, hp, hn⟩
  case mkn sz z n ps => simp only [Op.opds, Op.slots, List.mem_map, List.mem_flatMap] at *; obtain ⟨p, hp, rfl⟩ := hx; exact ⟨p, hp, hn⟩
  case mkl sz z n ps => simp only [Op.opds, Op.slots, List.mem_map, List.mem_flatMap] at *; obtain ⟨p, hp, rfl⟩ := hx; exact ⟨p, hp, hn⟩
  case callp f n as => exact List.mem_flatMap.2 ⟨x, hx, hn⟩
  case call f n as => exact List.mem_flatMap.2 ⟨x, hx, hn⟩
  case calls f n as => exact List.mem_flatMap.2 ⟨x, hx, hn⟩
  case calll f n as => exact List.mem_flatMap.2 ⟨x, hx, hn⟩
  case alloc z => simp [Op.opds] at hx
  case slc sz y lo hi =>
    simp only [Op.opds, Op.slots, List.mem_cons, List.mem_append] at *
    rcases hx with rfl | hx | hx
    · exact .inl (.inl hn)
    · cases lo with
      | none => cases hx
      | some l => simp at hx; subst hx; exact .inl (.inr hn)
    · cases hi with
      | none => cases hx
      | some l => simp at hx; subst hx; exact .inr hn
  all_goals
    simp only [Op.opds, List.mem_cons, List.not_mem_nil, or_false] at hx
    simp only [Op.slots, List.mem_append, List.mem_cons]
    first
      | (subst hx; simp [hn]; done)
      | (rcases hx with rfl | rfl <;> simp [hn]; done)
      | (rcases hx with rfl | rfl | rfl <;> simp [hn]; done)
theorem evOp_slots {d : Nat} {op : Op} (hs : ∀ n ∈ op.slots, σ n = σ' n) : evOp call σ bx h d op = evOp call σ' bx h d op := by
  have key : ∀ x ∈ op.opds, x.ev σ = x.ev σ' := fun x hx => ev_congr fun n hn => hs n (opds_slots hx hn)
  cases op
  case build z ps => simp only [evOp, partsV_congr (σ := σ) (σ' := σ') key]
  case mkn sz z n ps => simp only [evOp, rowsN_congr (σ := σ) (σ' := σ') key]
  case mkl sz z n ps => simp only [evOp, rowsV_congr (σ := σ) (σ' := σ') key]
  case callp f n as =>
    have e : as.map (fun x => x.ev σ) = as.map (fun x => x.ev σ') := List.map_congr_left key
    simp only [evOp, e]
  case call f n as =>
    have e : as.map (fun x => x.ev σ) = as.map (fun x => x.ev σ') := List.map_congr_left key
    simp only [evOp, e]
  case calls f n as =>
    have e : as.map (fun x => x.ev σ) = as.map (fun x => x.ev σ') := List.map_congr_left key
    simp only [evOp, e]
  case calll f n as => rfl
  case alloc z => rfl
  case slc sz x lo hi =>
    have hx := key x (by simp [Op.opds])
    have hlo : ∀ n, ointOf σ n lo = ointOf σ' n lo := by
      intro n
      cases lo with
      | none => rfl
      | some l => simp only [ointOf]; rw [key l (by simp [Op.opds])]
    have hhi : ∀ n, ointOf σ n hi = ointOf σ' n hi := by
      intro n
      cases hi with
      | none => rfl
      | some l => simp only [ointOf]; rw [key l (by simp [Op.opds])]
    simp only [evOp, hx, hlo, hhi]
  case ldb ag k x ap api =>
    have hx := key x (by simp [Op.opds])
    have hap : ∀ id, (ap.all fun n => notB id (σ n)) = ap.all fun n => notB id (σ' n) := by
      intro id
      rw [Bool.eq_iff_iff, List.all_eq_true, List.all_eq_true]
      constructor
      · intro hh n hn; rw [← hs n (by simp [Op.slots, hn])]; exact hh n hn
      · intro hh n hn; rw [hs n (by simp [Op.slots, hn])]; exact hh n hn
    simp only [evOp, hx, hap]
  case pick c a b =>
    have h1 := key c (by simp [Op.opds])
    have h2 := key a (by simp [Op.opds])
    have h3 := key b (by simp [Op.opds])
    simp only [evOp, h1, h2, h3]
  all_goals first
    | rfl
    | (rename_i x; have h1 := key x (by simp [Op.opds]); simp only [evOp, h1]; done)
    | (rename_i x _; have h1 := key x (by simp [Op.opds]); simp only [evOp, h1]; done)
    | (rename_i x y; have h1 := key x (by simp [Op.opds]); have h2 := key y (by simp [Op.opds]); simp only [evOp, h1, h2]; done)

/-! ### One operation, without its slot -/
def stbF (σ : Nat → SV) (bx : BX) (k : Nat) (fr : Bool) (a : Nat) (x : Opd) : Option BX :=
  match σ a with
  | .b id f => match cellsS (x.ev σ), bx id with
    | some xs, some cs => if f + k ≤ cs.length ∧ xs.length = k ∧ (fr = false ∨ id = (a + 1, 0)) then some (bnew bx id (cs.take f ++ xs ++ cs.drop (f + k))) else none
    | _, _ => none
  | _ => none
abbrev Body := BX → Heap → Option (Option SV × BX × Heap)
def body (call : Call) (σ : Nat → SV) (dst : Option Nat) (op : Op) : Body := fun bx h =>
  match op with
  | .stb k fr a x => (stbF σ bx k fr a x).map fun b => (none, b, h)
  | op => match dst with
    | some d => (evOp call σ bx h d op).map fun r => (some r.1, r.2.1, r.2.2)
    | none => none
def skp : Body := fun bx h => some (some (.t []), bx, h)
def gdOf (σ : Nat → SV) : Option (Nat × Bool) → Option Bool
  | none => some true
  | some (g, b) => match σ g with
    | .c (.v x) => some (x.isB b)
    | .t [] => some false
    | _ => none
def stp (call : Call) (σ : Nat → SV) (o : Oper) : Option Body := match gdOf σ o.guard with
  | some true => some (body call σ o.dst o.op)
  | some false => some skp
  | none => none
def puts (dst : Option Nat) (v : Option SV) (σ : Nat → SV) : Nat → SV := match dst, v with
  | some d, some x => upd σ d x
  | _, _ => σ
theorem exec_body {o : Oper} (hc : o.op.cls ≠ 9) (s : St) : exec call o s = (body call s.σ o.dst o.op s.bx s.h).map fun r => ⟨puts o.dst r.1 s.σ, r.2.1, r.2.2⟩ := by
  obtain ⟨dst, gd, op⟩ := o
  cases op <;> try (simp [Op.cls] at hc; done)
  case stb k fr a x =>
    simp only [exec, body, stbF]
    cases s.σ a <;> try rfl
    rename_i id f
    simp only
    cases cellsS (x.ev s.σ) with
    | none => rfl
    | some xs =>
      cases s.bx id with
      | none => rfl
      | some cs =>
        simp only
        split
        · cases dst <;> rfl
        · rfl
  all_goals
    simp only [exec, body]
    cases dst with
    | none => rfl
    | some d =>
      simp only [Option.map_map]
      split
      · rename_i heq
        rw [heq]
        rfl
      · rename_i heq
        rw [heq]
        rfl
theorem execG_stp {o : Oper} (hc : o.op.cls ≠ 9) (s : St) : execG call o s = match stp call s.σ o with
    | some f => (f s.bx s.h).map fun r => ⟨puts o.dst r.1 s.σ, r.2.1, r.2.2⟩
    | none => none := by
  unfold execG stp gdOf
  cases hg : o.guard with
  | none => exact exec_body hc s
  | some gb =>
    obtain ⟨g, b⟩ := gb
    simp only
    cases hx : s.σ g with
    | c t =>
      cases t with
      | v x =>
        simp only
        cases hb : x.isB b with
        | true => exact exec_body hc s
        | false => simp only [skp]; cases o.dst <;> rfl
      | _ => rfl
    | t vs =>
      cases vs with
      | nil => simp only [skp]; cases o.dst <;> rfl
      | cons _ _ => rfl
    | _ => rfl

/-! ### Two that may change places -/
def Comm (fa fb : Body) (bx : BX) (h : Heap) : Prop := ∀ va bx1 h1 vb bx2 h2, fa bx h = some (va, bx1, h1) → fb bx1 h1 = some (vb, bx2, h2) → ∃ b3 h3, fb bx h = some (vb, b3, h3) ∧ fa b3 h3 = some (va, bx2, h2)
def IndH (f : Body) : Prop := ∀ bx h h', f bx h' = (f bx h).map fun r => (r.1, r.2.1, h')
def IndB (f : Body) : Prop := ∀ bx bx' h, f bx' h = (f bx h).map fun r => (r.1, bx', r.2.2)
theorem IndH.same {f : Body} (hf : IndH f) {bx bx1 : BX} {h h1 : Heap} {v} (e : f bx h = some (v, bx1, h1)) : h1 = h ∧ ∀ h', f bx h' = some (v, bx1, h') := by
  constructor
  · have := hf bx h h
    rw [e] at this
    simp at this
    exact this
  · intro h'; rw [hf bx h h', e]; rfl
theorem IndB.same {f : Body} (hf : IndB f) {bx bx1 : BX} {h h1 : Heap} {v} (e : f bx h = some (v, bx1, h1)) : bx1 = bx ∧ ∀ b', f b' h = some (v, b', h1) := by
  constructor
  · have := hf bx bx h
    rw [e] at this
    simp at this
    exact this
  · intro h'; rw [hf bx h' h, e]; rfl
theorem comm_HB {fa fb : Body} (ha : IndH fa) (hb : IndB fb) (bx : BX) (h : Heap) : Comm fa fb bx h := by
  intro va bx1 h1 vb bx2 h2 e1 e2
  obtain ⟨rfl, a2⟩ := ha.same e1
  obtain ⟨rfl, b2⟩ := hb.same e2
  exact ⟨bx, h2, b2 bx, a2 h2⟩
theorem comm_BH {fa fb : Body} (ha : IndB fa) (hb : IndH fb) (bx : BX) (h : Heap) : Comm fa fb bx h := by
  intro va bx1 h1 vb bx2 h2 e1 e2
  obtain ⟨rfl, a2⟩ := ha.same e1
  obtain ⟨rfl, b2⟩ := hb.same e2
  exact ⟨bx2, h, b2 h, a2 bx2⟩
theorem skp_H : IndH skp := fun _ _ _ => rfl
theorem skp_B : IndB skp := fun _ _ _ => rfl

theorem body_ev {dst : Option Nat} {op : Op} (hn : op.cls ≠ 7) : body call σ dst op = fun bx h => match dst with
    | some d => (evOp call σ bx h d op).map fun r => (some r.1, r.2.1, r.2.2)
    | none => none := by
  funext bx h
  cases op <;> first
    | rfl
    | (simp [Op.cls] at hn; done)
theorem body_H {dst : Option Nat} {op : Op} (hc : op.cls = 0 ∨ op.cls = 1 ∨ op.cls = 3 ∨ op.cls = 7) : IndH (body call σ dst op) := by
  intro bx h h'
  by_cases h7 : op.cls = 7
  · cases op <;> try (simp [Op.cls] at h7; done)
    simp only [body, Option.map_map]
    rfl
  · rw [body_ev h7]
    cases dst with
    | none => rfl
    | some d =>
      simp only
      rcases hc with hc | hc | hc | hc
      · rw [evOp_c0 (h := h) (bx := bx) hc bx h']
        simp only [Option.map_map]
        have := evOp_c0 (call := call) (σ := σ) (d := d) (h := h) (bx := bx) hc bx h
        cases he : evOp call σ bx h d op with
        | none => rfl
        | some r =>
          obtain ⟨v, b1, h1⟩ := r
          rw [he] at this
          simp at this
          obtain ⟨rfl, rfl⟩ := this
          rfl
      · rw [evOp_c1 (h := h) (bx := bx) (.inl hc) h']; simp only [Option.map_map]; rfl
      · rw [evOp_c1 (h := h) (bx := bx) (.inr hc) h']; simp only [Option.map_map]; rfl
      · exact absurd hc h7
theorem body_B {dst : Option Nat} {op : Op} (hc : op.cls = 0 ∨ op.cls = 2 ∨ op.cls = 4 ∨ op.cls = 5 ∨ op.cls = 6) : IndB (body call σ dst op) := by
  intro bx bx' h
  have h7 : op.cls ≠ 7 := by omega
  rw [body_ev h7]
  cases dst with
  | none => rfl
  | some d =>
    simp only
    by_cases h0 : op.cls = 0
    · rw [evOp_c0 (h := h) (bx := bx) h0 bx' h]
      simp only [Option.map_map]
      have := evOp_c0 (call := call) (σ := σ) (d := d) (h := h) (bx := bx) h0 bx h
      cases he : evOp call σ bx h d op with
      | none => rfl
      | some r =>
        obtain ⟨v, b1, h1⟩ := r
        rw [he] at this
        simp at this
        obtain ⟨rfl, rfl⟩ := this
        rfl
    · rw [evOp_bx (bx := bx) (by omega) bx']
      simp only [Option.map_map]
      rfl
/-! Boxes. -/
theorem evOp_ldb {d : Nat} {op : Op} (hc : op.cls = 1) {v : SV} (he : evOp call σ bx h d op = some (v, bx1, h1)) :
    ∃ ag k x ap api id f cs, op = .ldb ag k x ap api ∧ x.ev σ = .b id f ∧ bx id = some cs ∧ (ap.all fun n => notB id (σ n)) = true ∧ (api.all fun n => id != (n + 1, 0)) = true ∧ bx1 = bx ∧ ∀ bx', bx' id = some cs → evOp call σ bx' h d op = some (v, bx', h1) := by
  cases op <;> try (simp [Op.cls] at hc; done)
  rename_i ag k x ap api
  simp only [evOp] at he
  split at he
  · rename_i id f hx
    split at he
    · rename_i cs hcs
      split at he
      · rename_i hcond
        obtain ⟨y, hy, e⟩ := Option.map_eq_some_iff.1 he
        simp only [Prod.mk.injEq] at e
        obtain ⟨rfl, rfl, rfl⟩ := e
        refine ⟨ag, k, x, ap, api, id, f, cs, rfl, hx, hcs, hcond.2.1, hcond.2.2, rfl, fun bx' hb => ?_⟩
        simp only [evOp, hx, hb, if_pos hcond, hy, Option.map_some]
      · cases he
    · cases he
  · cases he
theorem evOp_box {d : Nat} {op : Op} (hc : op.cls = 3) {v : SV} (he : evOp call σ bx h d op = some (v, bx1, h1)) :
    ∃ cs, bx (d + 1, 0) = none ∧ bx1 = bnew bx (d + 1, 0) cs ∧ ∀ bx', bx' (d + 1, 0) = none → evOp call σ bx' h d op = some (v, bnew bx' (d + 1, 0) cs, h1) := by
  cases op <;> try (simp [Op.cls] at hc; done)
  case alloc z =>
    simp only [evOp] at he
    split at he
    · rename_i hn
      simp only [Option.some.injEq, Prod.mk.injEq] at he
      obtain ⟨rfl, rfl, rfl⟩ := he
      exact ⟨_, hn, rfl, fun bx' hb => by simp only [evOp, hb]⟩
    · cases he
  case box x =>
    simp only [evOp] at he
    split at he
    · rename_i cs hx
      split at he
      · rename_i hn
        simp only [Option.some.injEq, Prod.mk.injEq] at he
        obtain ⟨rfl, rfl, rfl⟩ := he
        exact ⟨_, hn, rfl, fun bx' hb => by simp only [evOp, hx, hb]⟩
      · cases he
    · cases he
theorem bnew_comm (bx : BX) {i j : Id} (hij : i ≠ j) (x y : List SV) : bnew (bnew bx i x) j y = bnew (bnew bx j y) i x := by
  funext k
  simp only [bnew]
  by_cases h1 : k = i
  · subst h1; simp [hij]
  · simp [h1]
end
end AM

namespace AM
open Go

section
variable {h h1 N : Heap} {σ σ' : Nat → SV} {bx bx1 : BX} {call : Call}

theorem evOp_bx1 {d : Nat} {op : Op} (hc : op.cls = 2 ∨ op.cls = 4 ∨ op.cls = 5 ∨ op.cls = 6) {v : SV} (he : evOp call σ bx h d op = some (v, bx1, h1)) : bx1 = bx := by
  have := evOp_bx (call := call) (σ := σ) (h := h) (d := d) (bx := bx) hc bx
  rw [he] at this
  simp at this
  exact this

theorem comm_lists {x y : Nat} {a b : Op} (hd : x ≠ y) (ha : a.cls = 2 ∨ a.cls = 4 ∨ a.cls = 5 ∨ a.cls = 6) (hb : b.cls = 2 ∨ b.cls = 4 ∨ b.cls = 5 ∨ b.cls = 6) (hcl : clsOk a.cls b.cls = true) (hR : ∀ z ∈ b.opds, ∀ id ∈ (z.ev σ).lsI, h id ≠ none)
    {va vb : SV} {bx1 bx2 : BX} {h1 h2 : Heap} (e1 : evOp call σ bx h x a = some (va, bx1, h1)) (e2 : evOp call σ bx1 h1 y b = some (vb, bx2, h2)) :
    ∃ h3, evOp call σ bx h y b = some (vb, bx, h3) ∧ evOp call σ bx h3 x a = some (va, bx2, h2) := by
  obtain rfl := evOp_bx1 ha e1
  obtain rfl := evOp_bx1 hb e2
  have back : ∀ {N : Heap}, h1 = hadd h N → (∀ id, N id ≠ none → id.1 = x + 1 ∧ h id = none) → ∃ h3, evOp call σ bx2 h y b = some (vb, bx2, h3) ∧ h2 = hadd h3 N := by
    rintro N rfl hN
    rw [evOp_add (fun j => Classical.byContradiction fun hne => hd (by have := (hN _ hne).1; simp at this; omega)) hb (fun z hz id hi => Classical.byContradiction fun hne => hR z hz id hi (hN id hne).2)] at e2
    cases hq : evOp call σ bx2 h y b with
    | none => rw [hq] at e2; cases e2
    | some r =>
      obtain ⟨v, b', h3⟩ := r
      rw [hq] at e2
      simp only [add3_some, Option.some.injEq, Prod.mk.injEq] at e2
      obtain ⟨rfl, rfl, rfl⟩ := e2
      exact ⟨h3, rfl, rfl⟩
  have fwd : ∀ {N : Heap}, (∀ id, N id ≠ none → id.1 = y + 1 ∧ h id = none) → evOp call σ bx2 (hadd h N) x a = some (va, bx2, hadd h1 N) := by
    intro N hN
    rw [evOp_add (fun j => Classical.byContradiction fun hne => hd (by have := (hN _ hne).1; simp at this; omega)) ha (fun z hz id hi => Classical.byContradiction fun hne => evOp_dom ha e1 z hz id hi (hN id hne).2), e1]
    rfl
  by_cases ha4 : a.cls = 4
  · obtain ⟨N, q1, q2, q3⟩ := evOp_new4 ha4 e1
    obtain ⟨h3, k1, rfl⟩ := back q1 q2
    refine ⟨h3, k1, q3 h3 fun id hid => Classical.byContradiction fun hne => ?_⟩
    rcases (evOp_grow hb k1).2 id hne with h4 | h4
    · exact h4 (q2 id hid).2
    · have := (q2 id hid).1; omega
  by_cases hb4 : b.cls = 4
  · obtain ⟨N, rfl, q2, q3⟩ := evOp_new4 hb4 e2
    have hnone : ∀ id, N id ≠ none → h id = none := fun id hid => Classical.byContradiction fun hne => (evOp_grow ha e1).1 id hne (q2 id hid).2
    exact ⟨hadd h N, q3 h hnone, fwd fun id hid => ⟨(q2 id hid).1, hnone id hid⟩⟩
  by_cases ha2 : a.cls = 2
  · obtain rfl := evOp_same2 ha2 e1
    by_cases hb2 : b.cls = 2
    · obtain rfl := evOp_same2 hb2 e2
      exact ⟨_, e2, e1⟩
    · have hb5 : b.cls = 5 := by
        rcases hb with h5 | h5 | h5 | h5
        · exact absurd h5 hb2
        · exact absurd h5 hb4
        · exact h5
        · rw [ha2, h5] at hcl; cases hcl
      obtain ⟨N, rfl, q2⟩ := evOp_new5 hb5 e2
      exact ⟨_, e2, fwd q2⟩
  · have hab : a.cls = 5 ∧ b.cls = 2 := by
      rcases ha with h5 | h5 | h5 | h5
      · exact absurd h5 ha2
      · exact absurd h5 ha4
      · refine ⟨h5, ?_⟩
        rcases hb with h6 | h6 | h6 | h6
        · exact h6
        · exact absurd h6 hb4
        · rw [h5, h6] at hcl; cases hcl
        · rw [h5, h6] at hcl; cases hcl
      · rcases hb with h6 | h6 | h6 | h6
        · rw [h5, h6] at hcl; cases hcl
        · exact absurd h6 hb4
        · rw [h5, h6] at hcl; cases hcl
        · rw [h5, h6] at hcl; cases hcl
    obtain ⟨N, q1, q2⟩ := evOp_new5 hab.1 e1
    obtain ⟨h3, k1, rfl⟩ := back q1 q2
    obtain rfl := evOp_same2 hab.2 k1
    exact ⟨_, k1, by rw [e1, q1]⟩

theorem comm_boxes {x y : Nat} {a b : Op} (hd : x ≠ y) (ha : a.cls = 1 ∨ a.cls = 3) (hb : b.cls = 1 ∨ b.cls = 3) (hR : ∀ z ∈ b.opds, ∀ id ∈ (z.ev σ).bxI, bx id ≠ none)
    {va vb : SV} {bx1 bx2 : BX} {h1 h2 : Heap} (e1 : evOp call σ bx h x a = some (va, bx1, h1)) (e2 : evOp call σ bx1 h1 y b = some (vb, bx2, h2)) :
    ∃ b3 h3, evOp call σ bx h y b = some (vb, b3, h3) ∧ evOp call σ b3 h3 x a = some (va, bx2, h2) := by
  have hh1 : h1 = h := by
    have := evOp_c1 (call := call) (σ := σ) (bx := bx) (h := h) (d := x) ha h
    rw [e1] at this; simp at this; exact this
  subst hh1
  have hh2 : h2 = h1 := by
    have := evOp_c1 (call := call) (σ := σ) (bx := bx1) (h := h1) (d := y) hb h1
    rw [e2] at this; simp at this; exact this
  subst hh2
  rcases ha with ha | ha
  · obtain ⟨ag, k, z, ap, api, id, f, cs, rfl, z1, z2, _, _, rfl, z4⟩ := evOp_ldb ha e1
    rcases hb with hb | hb
    · obtain ⟨_, _, _, _, _, _, _, _, _, _, _, _, _, rfl, _⟩ := evOp_ldb hb e2
      exact ⟨_, _, e2, e1⟩
    · obtain ⟨cs', q1, rfl, q2⟩ := evOp_box hb e2
      refine ⟨_, _, e2, z4 _ ?_⟩
      have : id ≠ (y + 1, 0) := fun e => by rw [e, q1] at z2; cases z2
      simp [bnew, this, z2]
  · obtain ⟨cs, q1, rfl, q2⟩ := evOp_box ha e1
    rcases hb with hb | hb
    · obtain ⟨ag, k, z, ap, api, id, f, cs', rfl, z1, z2, _, _, rfl, z4⟩ := evOp_ldb hb e2
      have hne : id ≠ (x + 1, 0) := fun e => hR z (by simp [Op.opds]) id (by rw [z1]; simp [SV.bxI]) (by rw [e]; exact q1)
      have z2' : bx id = some cs' := by simpa [bnew, hne] using z2
      exact ⟨bx, _, z4 bx z2', e1⟩
    · obtain ⟨cs', r1, rfl, r2⟩ := evOp_box hb e2
      have hne : ((x + 1, 0) : Id) ≠ (y + 1, 0) := fun e => hd (by injection e with e; omega)
      have r1' : bx (y + 1, 0) = none := by simpa [bnew, Ne.symm hne] using r1
      refine ⟨_, _, r2 bx r1', ?_⟩
      rw [q2 _ (by simp [bnew, hne, q1])]
      rw [bnew_comm _ (Ne.symm hne)]

theorem comm_stb {x : Nat} {ag : Bool} {k k' : Nat} {z z' : Opd} {ap api : List Nat} {fr : Bool} {sl : Nat} (hsp : (ap.contains sl || (fr && api.contains sl)) = true)
    {va : SV} {bx1 bx2 : BX} {h1 : Heap} (e1 : evOp call σ bx h x (.ldb ag k z ap api) = some (va, bx1, h1)) (e2 : stbF σ bx1 k' fr sl z' = some bx2) :
    bx1 = bx ∧ h1 = h ∧ evOp call σ bx2 h x (.ldb ag k z ap api) = some (va, bx2, h) := by
  have hh1 : h1 = h := by
    have := evOp_c1 (call := call) (σ := σ) (bx := bx) (h := h) (d := x) (op := .ldb ag k z ap api) (.inl rfl) h
    rw [e1] at this; simp at this; exact this
  subst hh1
  obtain ⟨_, _, _, ap', api', id, f, cs, heq, z1, z2, z5, z6, rfl, z4⟩ := evOp_ldb rfl e1
  injection heq with _ _ _ q4 q5
  subst q4 q5
  refine ⟨rfl, rfl, z4 bx2 ?_⟩
  unfold stbF at e2
  split at e2
  · rename_i id' f' hsl
    split at e2
    · rename_i xs cs' _ _
      split at e2
      · rename_i hcond
        obtain rfl := Option.some.inj e2
        have hne : id ≠ id' := by
          intro e
          rcases Bool.or_eq_true_iff.1 hsp with h3 | h3
          · have := List.all_eq_true.1 z5 sl (by simpa using h3)
            rw [hsl] at this
            simp [notB, e] at this
          · simp only [Bool.and_eq_true] at h3
            have h4 := hcond.2.2.resolve_left (by rw [h3.1]; simp)
            have := List.all_eq_true.1 z6 sl (by simpa using h3.2)
            rw [e, h4] at this
            simp at this
        simp [bnew, hne, z2]
      · cases e2
    · cases e2
  · cases e2

theorem stbF_congr {k : Nat} {fr : Bool} {a : Nat} {x : Opd} (h : ∀ n ∈ a :: x.slot, σ n = σ' n) : stbF σ bx k fr a x = stbF σ' bx k fr a x := by
  unfold stbF
  rw [h a List.mem_cons_self, ev_congr (x := x) (fun n hn => h n (List.mem_cons_of_mem _ hn))]
theorem body_congr {dst : Option Nat} {op : Op} (hs : ∀ n ∈ op.slots, σ n = σ' n) : body call σ dst op = body call σ' dst op := by
  funext bx h
  by_cases h7 : op.cls = 7
  · cases op <;> try (simp [Op.cls] at h7; done)
    simp only [body]
    rw [stbF_congr hs]
  · rw [body_ev h7, body_ev h7]
    cases dst with
    | none => rfl
    | some d => simp only [evOp_slots (call := call) (bx := bx) (h := h) (d := d) hs]
theorem stp_congr {o : Oper} (hs : ∀ n ∈ o.reads, σ n = σ' n) : stp call σ o = stp call σ' o := by
  have hg : gdOf σ o.guard = gdOf σ' o.guard := by
    unfold gdOf
    cases hgd : o.guard with
    | none => rfl
    | some gb =>
      obtain ⟨g, b⟩ := gb
      simp only
      rw [hs g (by simp [Oper.reads, hgd])]
  unfold stp
  rw [hg, body_congr (fun n hn => hs n (by simp [Oper.reads, hn]))]

theorem swap_parts {a b : Oper} (hab : swapOk a b = true) : (clsOk a.op.cls b.op.cls = true ∨ ∃ ag k x ap api k' fr s x', a.op = .ldb ag k x ap api ∧ b.op = .stb k' fr s x' ∧ (ap.contains s || (fr && api.contains s)) = true) ∧
    (∀ x, a.dst = some x → x ∉ b.reads ∧ ∀ y, b.dst = some y → x ≠ y) ∧ ∀ y, b.dst = some y → y ∉ a.reads := by
  unfold swapOk at hab
  simp only [Bool.and_eq_true, Bool.or_eq_true] at hab
  obtain ⟨⟨h1, h2⟩, h3⟩ := hab
  refine ⟨?_, fun x hx => ?_, fun y hy => ?_⟩
  · rcases h1 with h1 | h1
    · exact .inl h1
    · right
      split at h1
      · rename_i ag k x ap api k' fr s x' e1 e2
        exact ⟨ag, k, x, ap, api, k', fr, s, x', e1, e2, by simpa using h1⟩
      · cases h1
  · have := List.all_eq_true.1 h2 x (by simp [Oper.dsts, hx])
    simp only [Bool.and_eq_true, Bool.not_eq_true', List.contains_eq_mem, decide_eq_false_iff_not] at this
    refine ⟨this.1, fun y hy e => this.2 ?_⟩
    simp [Oper.dsts, hy, e]
  · have := List.all_eq_true.1 h3 y (by simp [Oper.dsts, hy])
    simpa using this
theorem cls_lt : ∀ op : Op, op.cls = 0 ∨ op.cls = 1 ∨ op.cls = 2 ∨ op.cls = 3 ∨ op.cls = 4 ∨ op.cls = 5 ∨ op.cls = 6 ∨ op.cls = 7 ∨ op.cls = 9 := by
  intro op
  cases op <;> simp [Op.cls]
theorem puts_read {dst : Option Nat} {v : Option SV} {l : List Nat} (h : ∀ x, dst = some x → x ∉ l) : ∀ n ∈ l, puts dst v σ n = σ n := by
  intro n hn
  unfold puts
  cases dst with
  | none => rfl
  | some d =>
    cases v with
    | none => rfl
    | some x =>
      have : n ≠ d := fun e => h d rfl (e ▸ hn)
      simp [upd, this]
theorem puts_comm {da db : Option Nat} {va vb : Option SV} (h : ∀ x, da = some x → ∀ y, db = some y → x ≠ y) : puts db vb (puts da va σ) = puts da va (puts db vb σ) := by
  unfold puts
  cases da with
  | none => cases db <;> cases vb <;> rfl
  | some x =>
    cases db with
    | none => cases va <;> rfl
    | some y =>
      cases va with
      | none => cases vb <;> rfl
      | some v =>
        cases vb with
        | none => rfl
        | some u1 =>
          have hne := h x rfl y rfl
          funext n
          simp only [upd]
          by_cases e : n = x
          · subst e; simp [hne]
          · simp [e]

/-- Two operations change places. -/
theorem swap2 {a b : Oper} {s s1 s2 : St} (hab : swapOk a b = true) (hR : ∀ z ∈ b.op.opds, ∀ id ∈ (z.ev s.σ).lsI, s.h id ≠ none) (hR2 : ∀ z ∈ b.op.opds, ∀ id ∈ (z.ev s.σ).bxI, s.bx id ≠ none)
    (ha : execG call a s = some s1) (hb : execG call b s1 = some s2) : ∃ s3, execG call b s = some s3 ∧ execG call a s3 = some s2 := by
  obtain ⟨hcls, hda, hdb⟩ := swap_parts hab
  have hna : a.op.cls ≠ 9 := by
    rcases hcls with h | ⟨_, _, _, _, _, _, _, _, _, h, _, _⟩
    · intro e; rw [e] at h; simp [clsOk] at h
    · rw [h]; simp [Op.cls]
  have hnb : b.op.cls ≠ 9 := by
    rcases hcls with h | ⟨_, _, _, _, _, _, _, _, _, _, h, _⟩
    · intro e; rw [e] at h; rcases cls_lt a.op with h2 | h2 | h2 | h2 | h2 | h2 | h2 | h2 | h2 <;> rw [h2] at h <;> simp [clsOk] at h
    · rw [h]; simp [Op.cls]
  obtain ⟨σ, bx, h⟩ := s
  rw [execG_stp hna] at ha
  simp only at ha
  split at ha
  case h_2 => cases ha
  rename_i fa hfa
  obtain ⟨⟨va, bx1, h1⟩, e1, rfl⟩ := Option.map_eq_some_iff.1 ha
  rw [execG_stp hnb] at hb
  simp only at hb
  rw [stp_congr (σ' := σ) (puts_read fun x hx => (hda x hx).1)] at hb
  split at hb
  case h_2 => cases hb
  rename_i fb hfb
  obtain ⟨⟨vb, bx2, h2⟩, e2, rfl⟩ := Option.map_eq_some_iff.1 hb
  have key : ∃ b3 h3, fb bx h = some (vb, b3, h3) ∧ fa b3 h3 = some (va, bx2, h2) := by
    unfold stp at hfa hfb
    have done : ∀ f : Body, IndH f → IndB f → (fa = f ∨ fb = f) → Comm fa fb bx h → ∃ b3 h3, fb bx h = some (vb, b3, h3) ∧ fa b3 h3 = some (va, bx2, h2) := fun f _ _ _ hc => hc _ _ _ _ _ _ e1 e2
    have hIa : IndH fa ∨ IndB fa := by
      split at hfa
      · obtain rfl := Option.some.inj hfa
        rcases cls_lt a.op with h2 | h2 | h2 | h2 | h2 | h2 | h2 | h2 | h2
        · exact .inl (body_H (.inl h2))
        · exact .inl (body_H (.inr (.inl h2)))
        · exact .inr (body_B (.inr (.inl h2)))
        · exact .inl (body_H (.inr (.inr (.inl h2))))
        · exact .inr (body_B (.inr (.inr (.inl h2))))
        · exact .inr (body_B (.inr (.inr (.inr (.inl h2)))))
        · exact .inr (body_B (.inr (.inr (.inr (.inr h2)))))
        · exact .inl (body_H (.inr (.inr (.inr h2))))
        · exact absurd h2 hna
      · obtain rfl := Option.some.inj hfa; exact .inl skp_H
      · cases hfa
    have hIb : IndH fb ∨ IndB fb := by
      split at hfb
      · obtain rfl := Option.some.inj hfb
        rcases cls_lt b.op with h2 | h2 | h2 | h2 | h2 | h2 | h2 | h2 | h2
        · exact .inl (body_H (.inl h2))
        · exact .inl (body_H (.inr (.inl h2)))
        · exact .inr (body_B (.inr (.inl h2)))
        · exact .inl (body_H (.inr (.inr (.inl h2))))
        · exact .inr (body_B (.inr (.inr (.inl h2))))
        · exact .inr (body_B (.inr (.inr (.inr (.inl h2)))))
        · exact .inr (body_B (.inr (.inr (.inr (.inr h2)))))
        · exact .inl (body_H (.inr (.inr (.inr h2))))
        · exact absurd h2 hnb
      · obtain rfl := Option.some.inj hfb; exact .inl skp_H
      · cases hfb
    have light : ∀ {f g : Body}, IndH f → IndB f → (IndH g ∨ IndB g) → Comm f g bx h ∧ Comm g f bx h := by
      intro f g hH hB hg
      rcases hg with hg | hg
      · exact ⟨comm_BH hB hg bx h, comm_HB hg hB bx h⟩
      · exact ⟨comm_HB hH hg bx h, comm_BH hg hH bx h⟩
    split at hfa
    case h_3 => cases hfa
    case h_2 =>
      obtain rfl := Option.some.inj hfa
      exact (light skp_H skp_B hIb).1 _ _ _ _ _ _ e1 e2
    split at hfb
    case h_3 => cases hfb
    case h_2 =>
      obtain rfl := Option.some.inj hfb
      exact (light skp_H skp_B hIa).2 _ _ _ _ _ _ e1 e2
    obtain rfl := Option.some.inj hfa
    obtain rfl := Option.some.inj hfb
    by_cases ha0 : a.op.cls = 0
    · exact (light (body_H (.inl ha0)) (body_B (.inl ha0)) hIb).1 _ _ _ _ _ _ e1 e2
    by_cases hb0 : b.op.cls = 0
    · exact (light (body_H (.inl hb0)) (body_B (.inl hb0)) hIa).2 _ _ _ _ _ _ e1 e2
    have hmap : ∀ {x : Nat} {op : Op} {bx : BX} {h : Heap} {v : Option SV} {b1 : BX} {h1 : Heap}, (evOp call σ bx h x op).map (fun r => (some r.1, r.2.1, r.2.2)) = some (v, b1, h1) → ∃ u1, v = some u1 ∧ evOp call σ bx h x op = some (u1, b1, h1) := by
      intro x op bx h v b1 h1 he
      obtain ⟨⟨u1, b, hh⟩, k1, k2⟩ := Option.map_eq_some_iff.1 he
      simp only [Prod.mk.injEq] at k2
      obtain ⟨rfl, rfl, rfl⟩ := k2
      exact ⟨u1, rfl, k1⟩
    by_cases haL : a.op.cls = 2 ∨ a.op.cls = 4 ∨ a.op.cls = 5 ∨ a.op.cls = 6
    · by_cases hbL : b.op.cls = 2 ∨ b.op.cls = 4 ∨ b.op.cls = 5 ∨ b.op.cls = 6
      · have hcl : clsOk a.op.cls b.op.cls = true := by
          rcases hcls with h | ⟨_, _, _, _, _, _, _, _, _, h, _, _⟩
          · exact h
          · rw [h] at haL; simp [Op.cls] at haL
        rw [body_ev (by omega)] at e1 e2
        rw [body_ev (by omega), body_ev (by omega)]
        cases hxa : a.dst with
        | none => rw [hxa] at e1; cases e1
        | some x =>
          cases hyb : b.dst with
          | none => rw [hyb] at e2; cases e2
          | some y =>
            rw [hxa] at e1
            rw [hyb] at e2
            obtain ⟨ua, rfl, e1'⟩ := hmap e1
            obtain ⟨ub, rfl, e2'⟩ := hmap e2
            obtain ⟨h3, k1, k2⟩ := comm_lists ((hda x hxa).2 y hyb) haL hbL hcl hR e1' e2'
            exact ⟨bx, h3, by simp only [k1, Option.map_some], by simp only [k2, Option.map_some]⟩
      · have hbH : b.op.cls = 0 ∨ b.op.cls = 1 ∨ b.op.cls = 3 ∨ b.op.cls = 7 := by
          rcases cls_lt b.op with h2 | h2 | h2 | h2 | h2 | h2 | h2 | h2 | h2 <;> omega
        exact comm_BH (body_B (.inr haL)) (body_H hbH) bx h _ _ _ _ _ _ e1 e2
    · have haH : a.op.cls = 1 ∨ a.op.cls = 3 ∨ a.op.cls = 7 := by
        rcases cls_lt a.op with h2 | h2 | h2 | h2 | h2 | h2 | h2 | h2 | h2 <;> omega
      by_cases hbL : b.op.cls = 2 ∨ b.op.cls = 4 ∨ b.op.cls = 5 ∨ b.op.cls = 6
      · exact comm_HB (body_H (.inr haH)) (body_B (.inr hbL)) bx h _ _ _ _ _ _ e1 e2
      · have hbH : b.op.cls = 1 ∨ b.op.cls = 3 ∨ b.op.cls = 7 := by
          rcases cls_lt b.op with h2 | h2 | h2 | h2 | h2 | h2 | h2 | h2 | h2 <;> omega
        rcases hcls with hcl | ⟨ag, k, x, ap, api, k', fr, s, x', ea, eb, hsp⟩
        · have h13 : (a.op.cls = 1 ∨ a.op.cls = 3) ∧ (b.op.cls = 1 ∨ b.op.cls = 3) := by
            rcases haH with p | p | p <;> rcases hbH with q | q | q <;> rw [p, q] at hcl <;> first | (cases hcl; done) | (refine ⟨?_, ?_⟩ <;> omega)
          rw [body_ev (by omega)] at e1 e2
          rw [body_ev (by omega), body_ev (by omega)]
          cases hxa : a.dst with
          | none => rw [hxa] at e1; cases e1
          | some x =>
            cases hyb : b.dst with
            | none => rw [hyb] at e2; cases e2
            | some y =>
              rw [hxa] at e1
              rw [hyb] at e2
              obtain ⟨ua, rfl, e1'⟩ := hmap e1
              obtain ⟨ub, rfl, e2'⟩ := hmap e2
              obtain ⟨b3, h3, k1, k2⟩ := comm_boxes ((hda x hxa).2 y hyb) h13.1 h13.2 hR2 e1' e2'
              exact ⟨b3, h3, by simp only [k1, Option.map_some], by simp only [k2, Option.map_some]⟩
        · rw [ea] at e1 ⊢
          rw [eb] at e2 ⊢
          rw [body_ev (by simp [Op.cls])] at e1
          rw [body_ev (op := .ldb ag k x ap api) (by simp [Op.cls])]
          cases hxa : a.dst with
          | none => rw [hxa] at e1; cases e1
          | some d =>
            rw [hxa] at e1
            obtain ⟨ua, rfl, e1'⟩ := hmap e1
            simp only [body] at e2 ⊢
            obtain ⟨b', k1, k2⟩ := Option.map_eq_some_iff.1 e2
            simp only [Prod.mk.injEq] at k2
            obtain ⟨rfl, rfl, rfl⟩ := k2
            obtain ⟨rfl, rfl, k3⟩ := comm_stb hsp e1' k1
            exact ⟨b', h1, by simp only [k1, Option.map_some], by simp only [k3, Option.map_some]⟩
  obtain ⟨b3, h3, k1, k2⟩ := key
  refine ⟨⟨puts b.dst vb σ, b3, h3⟩, ?_, ?_⟩
  · rw [execG_stp hnb]
    simp only [hfb, k1, Option.map_some]
  · rw [execG_stp hna]
    simp only
    rw [stp_congr (σ' := σ) (puts_read hdb), hfa]
    simp only [k2, Option.map_some, Option.some.injEq, St.mk.injEq, and_true]
    exact (puts_comm fun x hx y hy => (hda x hx).2 y hy).symm
end
end AM

namespace AM
open Go

mutual
theorem bare_ls : ∀ {s : SV}, s.bare = true → s.lsI = [] ∧ s.bxI = []
  | .u, _ | .c _, _ | .q .., _ => ⟨rfl, rfl⟩
  | .r .., h | .p .., h | .b .., h => by simp [SV.bare] at h
  | .a cs, h => by simp only [SV.bare, SV.lsI, SV.bxI] at h ⊢; exact bareL_ls h
  | .t cs, h => by simp only [SV.bare, SV.lsI, SV.bxI] at h ⊢; exact bareL_ls h
theorem bareL_ls : ∀ {ss : List SV}, bareL ss = true → lsIL ss = [] ∧ bxIL ss = []
  | [], _ => ⟨rfl, rfl⟩
  | s :: ss, h => by
    simp only [bareL, Bool.and_eq_true] at h
    obtain ⟨a1, a2⟩ := bare_ls h.1
    obtain ⟨b1, b2⟩ := bareL_ls h.2
    simp [lsIL, bxIL, a1, a2, b1, b2]
end
section
variable {w : World} {F : FS} {bx : BX} {h : Heap} {g : Gh}
mutual
theorem SR_refs : ∀ {s : SV} {v : Value}, SR w F bx h g s v → (∀ id ∈ s.lsI, h id ≠ none) ∧ ∀ id ∈ s.bxI, bx id ≠ none
  | .u, _, _ | .c _, _, _ | .q .., _, _ => ⟨by simp [SV.lsI], by simp [SV.bxI]⟩
  | .r id .., v, hs => by
    simp only [SR] at hs
    obtain ⟨_, t, ht, _⟩ := hs
    exact ⟨by simp [SV.lsI, ht], by simp [SV.bxI]⟩
  | .p id .., v, hs => by
    simp only [SR] at hs
    obtain ⟨_, t, ht, _⟩ := hs
    exact ⟨by simp [SV.lsI, ht], by simp [SV.bxI]⟩
  | .b id f, v, hs => by
    simp only [SR] at hs
    obtain ⟨⟨cs, hc⟩, _⟩ := hs
    exact ⟨by simp [SV.lsI], by simp [SV.bxI, hc]⟩
  | .a cs, v, hs => by
    simp only [SR] at hs
    obtain ⟨arr, _, _, hs⟩ := hs
    simpa only [SV.lsI, SV.bxI] using SRL_refs hs
  | .t cs, v, hs => by
    simp only [SR] at hs
    obtain ⟨arr, _, hs⟩ := hs
    simpa only [SV.lsI, SV.bxI] using SRL_refs hs
theorem SRL_refs : ∀ {ss : List SV} {vs : List Value}, SRL w F bx h g ss vs → (∀ id ∈ lsIL ss, h id ≠ none) ∧ ∀ id ∈ bxIL ss, bx id ≠ none
  | [], [], _ => ⟨by simp [lsIL], by simp [bxIL]⟩
  | s :: ss, v :: vs, hs => by
    obtain ⟨a1, a2⟩ := SR_refs hs.1
    obtain ⟨b1, b2⟩ := SRL_refs hs.2
    simp only [lsIL, bxIL, List.mem_append]
    exact ⟨fun id hi => hi.elim (a1 id) (b1 id), fun id hi => hi.elim (a2 id) (b2 id)⟩
  | [], _ :: _, hh => by cases hh
  | _ :: _, [], hh => by cases hh
end
end

/-! ### What stands ahead -/
def aheadF (acc : List (List Nat)) (o : Go.Oper) : List Nat :=
  (o.after.toList.filter (Region.binds .any ·)).foldl (fun s e => if e.on < acc.length && !s.contains e.on then uni s (e.on :: acc.getD e.on []) else s) []
theorem ahead_eq (ops : List Go.Oper) : ahead ops = ops.foldl (fun acc o => acc ++ [aheadF acc o]) [] := rfl
theorem mem_uni {x : Nat} : ∀ {b a : List Nat}, x ∈ uni a b → x ∈ a ∨ x ∈ b
  | [], a, h => .inl h
  | y :: b, a, h => by
    unfold uni at h
    rw [List.foldl_cons] at h
    have := mem_uni (b := b) (a := if a.contains y then a else y :: a) h
    rcases this with h1 | h1
    · split at h1
      · exact .inl h1
      · rcases List.mem_cons.1 h1 with rfl | h1
        · exact .inr List.mem_cons_self
        · exact .inl h1
    · exact .inr (List.mem_cons_of_mem _ h1)
theorem mem_aheadF {acc : List (List Nat)} {o : Go.Oper} {x : Nat} (h : x ∈ aheadF acc o) : ∃ e ∈ o.after.toList, Region.binds .any e = true ∧ e.on < acc.length ∧ (x = e.on ∨ x ∈ acc.getD e.on []) := by
  unfold aheadF at h
  have gen : ∀ (l : List Edge) (s : List Nat), x ∈ l.foldl (fun s e => if e.on < acc.length && !s.contains e.on then uni s (e.on :: acc.getD e.on []) else s) s → x ∈ s ∨ ∃ e ∈ l, e.on < acc.length ∧ (x = e.on ∨ x ∈ acc.getD e.on []) := by
    intro l
    induction l with
    | nil => intro s h; exact .inl h
    | cons e l ih =>
      intro s h
      rw [List.foldl_cons] at h
      rcases ih _ h with h1 | ⟨e', he', h1⟩
      · split at h1
        · rename_i hc
          simp only [Bool.and_eq_true, decide_eq_true_eq] at hc
          rcases mem_uni h1 with h2 | h2
          · exact .inl h2
          · exact .inr ⟨e, List.mem_cons_self, hc.1, List.mem_cons.1 h2⟩
        · exact .inl h1
      · exact .inr ⟨e', List.mem_cons_of_mem _ he', h1⟩
  rcases gen _ _ h with h1 | ⟨e, he, h1⟩
  · cases h1
  · obtain ⟨h2, h3⟩ := List.mem_filter.1 he
    exact ⟨e, h2, h3, h1⟩
theorem fold_ahead : ∀ (ops : List Go.Oper) (acc : List (List Nat)), ∃ ext, ops.foldl (fun acc o => acc ++ [aheadF acc o]) acc = acc ++ ext ∧ ext.length = ops.length ∧ ∀ i o, ops[i]? = some o → ext[i]? = some (aheadF (acc ++ ext.take i) o)
  | [], acc => ⟨[], by simp, rfl, by simp⟩
  | o :: ops, acc => by
    obtain ⟨ext, h1, h2, h3⟩ := fold_ahead ops (acc ++ [aheadF acc o])
    refine ⟨aheadF acc o :: ext, by rw [List.foldl_cons, h1]; simp, by simp [h2], fun i o' hi => ?_⟩
    cases i with
    | zero => simp at hi; subst hi; simp
    | succ i =>
      simp only [List.getElem?_cons_succ] at hi ⊢
      rw [h3 i o' hi]
      simp
theorem ahead_spec {ops : List Go.Oper} {i x : Nat} (h : x ∈ (ahead ops).getD i []) : ∃ o, ops[i]? = some o ∧ ∃ e ∈ o.after.toList, Region.binds .any e = true ∧ e.on < i ∧ (x = e.on ∨ x ∈ (ahead ops).getD e.on []) := by
  obtain ⟨ext, h1, h2, h3⟩ := fold_ahead ops []
  rw [← ahead_eq, List.nil_append] at h1
  rw [h1] at h ⊢
  rcases Nat.lt_or_ge i ops.length with hl | hl
  · have ho : ops[i]? = some ops[i] := by simp [hl]
    refine ⟨ops[i], ho, ?_⟩
    have h4 := h3 i _ ho
    rw [List.nil_append] at h4
    rw [List.getD_eq_getElem?_getD, h4, Option.getD_some] at h
    obtain ⟨e, he, hb, hlt, hx⟩ := mem_aheadF h
    have hlt2 : e.on < i := by rw [List.length_take] at hlt; omega
    refine ⟨e, he, hb, hlt2, ?_⟩
    rcases hx with hx | hx
    · exact .inl hx
    · refine .inr ?_
      rw [List.getD_eq_getElem?_getD, List.getElem?_take_of_lt hlt2] at hx
      rw [List.getD_eq_getElem?_getD]
      exact hx
  · rw [List.getD_eq_getElem?_getD, List.getElem?_eq_none (by omega)] at h
    cases h

section
variable {P : Program} {w0 w w' : World} {F F' : FS} {Lb : Lent} {bx bx' : BX} {h h' : Heap} {g g' : Gh} {σ : Nat → SV} {tmps : Array Value} {a : Act} {o : Go.Oper}
variable {call : Call} {H : Hint} {draw : Bool} {ops : Array Go.Oper} {os : List Oper} {i d : Nat}

/-- What was listed was ready. -/
def Closed (ops : Array Go.Oper) (listed : Array Bool) : Prop := ∀ j o, ops[j]? = some o → listed.getD j false = true → ∀ e ∈ o.after.toList, Region.binds .any e = true → listed.getD e.on false = true
theorem ahead_listed {listed : Array Bool} (hc : Closed ops listed) : ∀ (i x : Nat) (o : Go.Oper), ops[i]? = some o → (∀ e ∈ o.after.toList, Region.binds .any e = true → listed.getD e.on false = true) → x ∈ (ahead ops.toList).getD i [] → listed.getD x false = true := by
  intro i
  induction i using Nat.strongRecOn with
  | _ i ih =>
    intro x o ho he hx
    obtain ⟨o', ho', e, hem, hb, hlt, hx⟩ := ahead_spec hx
    have ho2 : ops[i]? = some o' := by simpa using ho'
    rw [ho] at ho2
    obtain rfl := Option.some.inj ho2
    have hl := he e hem hb
    rcases hx with rfl | hx
    · exact hl
    · obtain ⟨o2, ho2, _⟩ := ahead_spec hx
      have ho2' : ops[e.on]? = some o2 := by simpa using ho2
      exact ih e.on hlt x o2 ho2' (hc e.on o2 ho2' hl) hx

/-- Who goes first can go first. -/
theorem execG_grow {o' : Oper} {s s1 : St} (hc : o'.op.cls ≠ 9) (he : execG call o' s = some s1) : (∀ id, s.h id ≠ none → s1.h id ≠ none) ∧ (∀ id, s.bx id ≠ none → s1.bx id ≠ none) ∧ ∀ n, (∀ d, o'.dst = some d → n ≠ d) → s1.σ n = s.σ n := by
  rw [execG_stp hc] at he
  split at he
  case h_2 => cases he
  rename_i f hf
  obtain ⟨⟨v, bx1, h1⟩, e1, rfl⟩ := Option.map_eq_some_iff.1 he
  have hσ : ∀ n, (∀ d, o'.dst = some d → n ≠ d) → puts o'.dst v s.σ n = s.σ n := by
    intro n hn
    unfold puts
    cases hd : o'.dst with
    | none => rfl
    | some d => cases v with
      | none => rfl
      | some x => simp [upd, hn d hd]
  unfold stp at hf
  split at hf
  case h_3 => cases hf
  case h_2 =>
    obtain rfl := Option.some.inj hf
    simp only [skp, Option.some.injEq, Prod.mk.injEq] at e1
    obtain ⟨_, rfl, rfl⟩ := e1
    exact ⟨fun _ h => h, fun _ h => h, hσ⟩
  obtain rfl := Option.some.inj hf
  by_cases hL : o'.op.cls = 2 ∨ o'.op.cls = 4 ∨ o'.op.cls = 5 ∨ o'.op.cls = 6
  · obtain ⟨rfl, _⟩ := (body_B (.inr hL)).same e1
    rw [body_ev (by omega)] at e1
    cases hd : o'.dst with
    | none => rw [hd] at e1; cases e1
    | some d =>
      rw [hd] at e1
      obtain ⟨⟨u', b, hh⟩, k1, k2⟩ := Option.map_eq_some_iff.1 e1
      simp only [Prod.mk.injEq] at k2
      obtain ⟨_, rfl, rfl⟩ := k2
      exact ⟨(evOp_grow hL k1).1, fun _ h => h, by rw [hd] at hσ; exact hσ⟩
  · have hH : o'.op.cls = 0 ∨ o'.op.cls = 1 ∨ o'.op.cls = 3 ∨ o'.op.cls = 7 := by
      rcases cls_lt o'.op with h2 | h2 | h2 | h2 | h2 | h2 | h2 | h2 | h2 <;> omega
    obtain ⟨rfl, _⟩ := (body_H hH).same e1
    refine ⟨fun _ h => h, ?_, hσ⟩
    by_cases h7 : o'.op.cls = 7
    · obtain ⟨dst, gd, op⟩ := o'
      cases op <;> try (simp [Op.cls] at h7; done)
      simp only [body] at e1
      obtain ⟨b', k1, k2⟩ := Option.map_eq_some_iff.1 e1
      simp only [Prod.mk.injEq] at k2
      obtain ⟨_, rfl, _⟩ := k2
      unfold stbF at k1
      split at k1
      · split at k1
        · split at k1
          · obtain rfl := Option.some.inj k1
            intro id hid
            simp only [bnew]
            split
            · simp
            · exact hid
          · cases k1
        · cases k1
      · cases k1
    · rw [body_ev h7] at e1
      cases hd : o'.dst with
      | none => rw [hd] at e1; cases e1
      | some d =>
        rw [hd] at e1
        obtain ⟨⟨u', b, hh⟩, k1, k2⟩ := Option.map_eq_some_iff.1 e1
        simp only [Prod.mk.injEq] at k2
        obtain ⟨_, rfl, rfl⟩ := k2
        rcases hH with h0 | h0 | h0 | h0
        · have := evOp_c0 (call := call) (σ := s.σ) (d := d) (h := s.h) (bx := s.bx) h0 s.bx s.h
          rw [k1] at this
          simp at this
          rw [this]
          exact fun _ h => h
        · obtain ⟨_, _, _, _, _, _, _, _, _, _, _, _, _, rfl, _⟩ := evOp_ldb h0 k1
          exact fun _ h => h
        · obtain ⟨cs, _, rfl, _⟩ := evOp_box h0 k1
          intro id hid
          simp only [bnew]
          split
          · simp
          · exact hid
        · exact absurd h0 h7

theorem front {i : Nat} {oi : Oper} (hi : os[i]? = some oi) : ∀ (A : List Nat) {B : List Nat} {s s' : St}, (∀ x ∈ A, ∃ ox, os[x]? = some ox ∧ swapOk ox oi = true) → (∀ z ∈ oi.op.opds, ∀ id ∈ (z.ev s.σ).lsI, s.h id ≠ none) → (∀ z ∈ oi.op.opds, ∀ id ∈ (z.ev s.σ).bxI, s.bx id ≠ none) →
    runIdx call os (A ++ i :: B) s = some s' → runIdx call os (i :: (A ++ B)) s = some s'
  | [], B, s, s', _, _, _, hr => hr
  | x :: A, B, s, s', hA, hR, hR2, hr => by
    obtain ⟨ox, hox, hsw⟩ := hA x List.mem_cons_self
    simp only [List.cons_append, runIdx, hox] at hr
    split at hr
    · rename_i s1 hs1
      have hn9 : ox.op.cls ≠ 9 := by
        rcases (swap_parts hsw).1 with h | ⟨_, _, _, _, _, _, _, _, _, h, _, _⟩
        · intro e; rw [e] at h; simp [clsOk] at h
        · rw [h]; simp [Op.cls]
      obtain ⟨g1, g2, g3⟩ := execG_grow hn9 hs1
      have hev : ∀ z ∈ oi.op.opds, z.ev s1.σ = z.ev s.σ := fun z hz => ev_congr fun n hn => g3 n fun d hd e => by
        subst e
        exact ((swap_parts hsw).2.1 n hd).1 (by simp [Oper.reads, opds_slots hz hn])
      have ih := front hi A (B := B) (s := s1) (s' := s') (fun y hy => hA y (List.mem_cons_of_mem _ hy)) (fun z hz id hid => g1 id (hR z hz id (by rw [← hev z hz]; exact hid))) (fun z hz id hid => g2 id (hR2 z hz id (by rw [← hev z hz]; exact hid))) hr
      simp only [runIdx, hi] at ih
      split at ih
      · rename_i s2 hs2
        obtain ⟨s3, k1, k2⟩ := swap2 hsw hR hR2 hs1 hs2
        simp only [runIdx, hi, k1, List.cons_append, hox, k2]
        exact ih
      · cases ih
    · cases hr

def unl (n : Nat) (listed : Array Bool) : List Nat := (List.range n).filter fun i => !listed.getD i true
theorem unl_sorted (n : Nat) (listed : Array Bool) : (unl n listed).Pairwise (· < ·) := List.pairwise_lt_range.filter _
theorem mem_unl {n : Nat} {listed : Array Bool} {i : Nat} : i ∈ unl n listed ↔ i < n ∧ listed.getD i true = false := by simp [unl]

theorem getD_lt {listed : Array Bool} {i : Nat} (h : i < listed.size) (a b : Bool) : listed.getD i a = listed.getD i b := by
  simp [Array.getD, h]
theorem unl_set {n i : Nat} {listed : Array Bool} {A B : List Nat} (hl : listed.size = n) (h : unl n listed = A ++ i :: B) : unl n (listed.setIfInBounds i true) = A ++ B := by
  have hsrt := unl_sorted n listed
  rw [h] at hsrt
  obtain ⟨p1, p2, p3⟩ := List.pairwise_append.1 hsrt
  have hin : i < n := (mem_unl.1 (show i ∈ unl n listed by rw [h]; simp)).1
  have e : unl n (listed.setIfInBounds i true) = (unl n listed).filter fun j => decide (j ≠ i) := by
    unfold unl
    rw [List.filter_filter]
    apply List.filter_congr
    intro j hj
    by_cases e : j = i
    · subst e
      simp [Array.getElem?_setIfInBounds, hl, hin]
    · have : i ≠ j := fun h => e h.symm
      simp [Array.getElem?_setIfInBounds, this, e]
  rw [e, h, List.filter_append, List.filter_cons]
  simp only [ne_eq, not_true_eq_false, decide_false, Bool.false_eq_true, if_false]
  congr 1
  · exact List.filter_eq_self.2 fun x hx => by have := p3 x hx i List.mem_cons_self; simp; omega
  · exact List.filter_eq_self.2 fun x hx => by have := List.rel_of_pairwise_cons p2 hx; simp; omega

theorem draw_wp {Q : Exit → Act → World → Prop} (hx : ExecOk P call) (hR : RegC P H draw ops os) (hl : os.length = ops.size) (hok : drawOk ops.toList os = true) (n : Nat) (hd : ∀ o' ∈ os, ∀ d, o'.dst = some d → d < n) :
    ∀ (fuel t : Nat) (listed : Array Bool) {s s' : St} {a : Act} {w : World} {g : Gh}, listed.size = ops.size → Closed ops listed → (unl ops.size listed).length ≤ fuel → runIdx call os (unl ops.size listed) s = some s' → Sm w0 F Lb w s a.tmps g → a.tmps.size = n → a.defers = [] →
    (∀ a' w' g', Sm w0 F Lb w' s' a'.tmps g' → a'.tmps.size = n → a'.defers = [] → Q .normal a' w') → wpOps P ops Q (Region.linearise.go .any ops fuel t listed []) a w := by
  simp only [drawOk, Bool.and_eq_true] at hok
  obtain ⟨⟨hback, hpairs⟩, hbare⟩ := hok
  intro fuel
  induction fuel with
  | zero =>
    intro t listed s s' a w g hsz hcl hfu hr S hn hdf hQ
    have e : unl ops.size listed = [] := List.eq_nil_of_length_eq_zero (by omega)
    rw [e] at hr
    simp only [runIdx, Option.some.injEq] at hr
    subst hr
    simp only [Region.linearise.go, List.reverse_nil, wpOps]
    exact hQ a w g S hn hdf
  | succ fuel ih =>
    intro t listed s s' a w g hsz hcl hfu hr S hn hdf hQ
    simp only [Region.linearise.go]
    change wpOps P ops Q (match (Region.ready .any ops listed)[t % (Region.ready .any ops listed).length]? with
      | some i => Region.linearise.go .any ops fuel (t / (Region.ready .any ops listed).length) (listed.setIfInBounds i true) [i]
      | none => [].reverse) a w
    have hready : ∀ i, i ∈ Region.ready .any ops listed → i ∈ unl ops.size listed ∧ ∀ o, ops[i]? = some o → ∀ e ∈ o.after.toList, Region.binds .any e = true → listed.getD e.on false = true := by
      intro i hi
      unfold Region.ready at hi
      simp only [List.mem_filter, Bool.and_eq_true, Bool.not_eq_true'] at hi
      refine ⟨mem_unl.2 ⟨by simpa using hi.1, hi.2.1⟩, fun o ho e he hb => ?_⟩
      have h2 := hi.2.2
      rw [ho] at h2
      simp only [Option.map_some, Option.getD_some, Array.all_eq_true'] at h2
      have := h2 e (by simpa using he)
      rw [hb] at this
      simpa using this
    cases hq : (Region.ready .any ops listed)[t % (Region.ready .any ops listed).length]? with
    | none =>
      simp only
      have hnil : Region.ready .any ops listed = [] := by
        cases hr : Region.ready .any ops listed with
        | nil => rfl
        | cons x xs =>
          rw [hr] at hq
          have hlt : t % (x :: xs).length < (x :: xs).length := Nat.mod_lt _ (by simp)
          simp at hq
          simp at hlt
          omega
      have hU : unl ops.size listed = [] := by
        cases hU : unl ops.size listed with
        | nil => rfl
        | cons m ms =>
          exfalso
          have hm : m ∈ unl ops.size listed := by rw [hU]; exact List.mem_cons_self
          obtain ⟨hm1, hm2⟩ := mem_unl.1 hm
          have hsrt := unl_sorted ops.size listed
          rw [hU] at hsrt
          have : m ∈ Region.ready .any ops listed := by
            unfold Region.ready
            simp only [List.mem_filter, List.mem_range, Bool.and_eq_true, Bool.not_eq_true']
            refine ⟨hm1, hm2, ?_⟩
            have ho : ops[m]? = some ops[m] := by simp [hm1]
            rw [ho]
            simp only [Option.map_some, Option.getD_some, Array.all_eq_true']
            intro e he
            cases hb : Region.binds .any e with
            | false => rfl
            | true =>
              have h3 := List.all_eq_true.1 hback (ops[m], m) (by rw [List.mem_iff_getElem?]; exact ⟨m, by simp [List.getElem?_zipIdx, hm1]⟩)
              have h4 := List.all_eq_true.1 h3 e (by simpa using he)
              simp only [hb, Bool.not_true, Bool.false_or, decide_eq_true_eq] at h4
              simp only [Bool.not_true, Bool.false_or]
              refine Classical.byContradiction fun hne => ?_
              have h5 : e.on ∈ unl ops.size listed := mem_unl.2 ⟨by omega, by
                rw [getD_lt (by omega) true false]
                simpa using hne⟩
              rw [hU] at h5
              rcases List.mem_cons.1 h5 with h6 | h6
              · omega
              · have := List.rel_of_pairwise_cons hsrt h6
                omega
          rw [hnil] at this
          cases this
      rw [hU] at hr
      simp only [runIdx, Option.some.injEq] at hr
      subst hr
      exact hQ a w g S hn hdf
    | some i =>
      simp only
      rw [linearise_go_acc, List.reverse_singleton, List.singleton_append, wpOps_cons]
      obtain ⟨hiU, hiE⟩ := hready i (List.mem_of_getElem? hq)
      obtain ⟨hin, hiL⟩ := mem_unl.1 hiU
      obtain ⟨A, B, hU⟩ := List.append_of_mem hiU
      have hoi : ops[i]? = some ops[i] := by simp [hin]
      obtain ⟨oi, hosi, hC⟩ := hR i ops[i] hoi
      have hsrt := unl_sorted ops.size listed
      rw [hU] at hsrt
      have hlt : ∀ x ∈ A, x < i := fun x hx => (List.pairwise_append.1 hsrt).2.2 x hx i List.mem_cons_self
      have hA : ∀ x ∈ A, ∃ ox, os[x]? = some ox ∧ swapOk ox oi = true := by
        intro x hx
        have hxU : x ∈ unl ops.size listed := by rw [hU]; simp [hx]
        obtain ⟨hx1, hx2⟩ := mem_unl.1 hxU
        obtain ⟨ox, hox, _⟩ := hR x ops[x] (by simp [hx1])
        refine ⟨ox, hox, ?_⟩
        have h3 := List.all_eq_true.1 hpairs i (by simp [hl, hin])
        have h4 := List.all_eq_true.1 h3 x (by simpa using hlt x hx)
        rcases Bool.or_eq_true_iff.1 h4 with h5 | h5
        · exfalso
          have := ahead_listed hcl i x ops[i] hoi (hiE _ hoi) (by simpa using h5)
          rw [getD_lt (by omega) false true, hx2] at this
          cases this
        · rw [hox, hosi] at h5
          exact h5
      have hbr := List.all_eq_true.1 hbare oi (List.mem_of_getElem? hosi)
      have hrefs : ∀ z ∈ oi.op.opds, (∀ id ∈ (z.ev s.σ).lsI, s.h id ≠ none) ∧ ∀ id ∈ (z.ev s.σ).bxI, s.bx id ≠ none := by
        intro z hz
        cases z with
        | t m => exact SR_refs (S.sl m)
        | c sv =>
          have := List.all_eq_true.1 hbr _ hz
          obtain ⟨e1, e2⟩ := bare_ls (s := sv) this
          simp [Opd.ev, e1, e2]
      rw [hU] at hr
      have hr2 := front hosi A hA (fun z hz => (hrefs z hz).1) (fun z hz => (hrefs z hz).2) hr
      simp only [runIdx, hosi] at hr2
      split at hr2
      · rename_i s1 hs1
        have hdst : oi.dst = ops[i].dst := by obtain ⟨_, _, _, _, rfl⟩ := operC_spec hC; rfl
        have hb : ∀ d, ops[i].dst = some d → d < a.tmps.size := fun d hdd => by rw [hn]; exact hd oi (List.mem_of_getElem? hosi) d (by rw [hdst]; exact hdd)
        refine wpOp_mono (fun a' w' hW => ?_) (execG_wp hx hC hoi hb hs1 S)
        obtain ⟨⟨v, rfl⟩, g', S'⟩ := hW
        refine ih _ _ (by simp [hsz]) ?_ ?_ (by rw [unl_set hsz hU]; exact hr2) S' (by rw [put_size]; exact hn) (by rw [put_defers]; exact hdf) hQ
        · intro j o hj hlj e he hbe
          have up : ∀ k, listed.getD k false = true → (listed.setIfInBounds i true).getD k false = true := by
            intro k hk
            simp only [Array.getD_eq_getD_getElem?, Array.getElem?_setIfInBounds] at hk ⊢
            split
            · split <;> simp_all
            · exact hk
          by_cases e2 : j = i
          · subst e2
            rw [hoi] at hj
            obtain rfl := Option.some.inj hj
            exact up _ (hiE _ hoi e he hbe)
          · refine up _ (hcl j o hj ?_ e he hbe)
            simp only [Array.getD_eq_getD_getElem?, Array.getElem?_setIfInBounds] at hlj ⊢
            rw [if_neg (fun h => e2 h.symm)] at hlj
            exact hlj
        · rw [unl_set hsz hU]
          rw [hU] at hfu
          simp at hfu ⊢
          omega
      · cases hr2
theorem sched_wp {Q : Exit → Act → World → Prop} (hm : P.follows .mixedOrders = true) (hx : ExecOk P call) (hR : RegC P H draw ops os) (hl : os.length = ops.size) (hok : drawOk ops.toList os = true) (n : Nat) (hd : ∀ o' ∈ os, ∀ d, o'.dst = some d → d < n)
    (t : Nat) {s s' : St} {a : Act} {w : World} {g : Gh} (hr : runOps call os s = some s') (S : Sm w0 F Lb w s a.tmps g) (hn : a.tmps.size = n) (hdf : a.defers = [])
    (hQ : ∀ a' w' g', Sm w0 F Lb w' s' a'.tmps g' → a'.tmps.size = n → a'.defers = [] → Q .normal a' w') : wpOps P ops Q (Region.schedule (P.follows .mixedOrders) ops t) a w := by
  simp only [Region.schedule, hm, Bool.true_or, if_true, Region.linearise]
  have hU : unl ops.size (Array.replicate ops.size false) = List.range ops.size := by
    refine List.filter_eq_self.2 fun i hi => ?_
    simp at hi
    simp [Array.getD, hi]
  refine draw_wp hx hR hl hok n hd ops.size t _ (by simp) ?_ (by rw [hU]; simp) ?_ S hn hdf hQ
  · intro j o ho hlj
    have hj := (Array.getElem?_eq_some_iff.1 ho).1
    simp [Array.getD, hj] at hlj
  · rw [hU, ← hl, List.range_eq_range', runIdx_range call os os 0 s (by simp)]
    exact hr
end
end AM

namespace AM
open Go

def exitOf : X → Exit
  | .n => .normal
  | .e id => .exit id
  | .r => .ret

section
variable {P : Program} {call : Call} {H : Hint} {w0 : World} {F : FS} {Lb : Lent}

theorem opsDst {n : Nat} {os : List Oper} (h : (os.all fun o => match o.dst with | some d => decide (d < n) | none => true) = true) : ∀ o' ∈ os, ∀ d, o'.dst = some d → d < n := by
  intro o' ho d hd
  have := List.all_eq_true.1 h o' ho
  rw [hd] at this
  simpa using this

theorem run_wp (hx : ExecOk P call) (hsw : P.follows .mixedOrders = true) (nb k n N : Nat) (hnN : n ≤ N) : ∀ (c : Code) {L L' : List (List Nat)} {ac : AC}, comp P H L c = some (ac, L') → dstOk n ac = true → ∀ {s s' : St} {x : X}, run call nb k ac s = some (x, s') →
    ∀ {Q : Exit → Act → World → Prop} {a : Act} {w : World} {g : Gh}, Sm w0 F Lb w s a.tmps g → a.tmps.size = N → a.defers = [] →
    (∀ a' w' g', Sm w0 F Lb w' s' a'.tmps g' → a'.tmps.size = N → a'.defers = [] → Q (exitOf x) a' w') → c.wp P Q a w
  | .skip, L, L', ac, hc, hd, s, s', x, hr, Q, a, w, g, S, hn, hdf, hQ => by
    simp only [comp, Option.some.injEq, Prod.mk.injEq] at hc
    obtain ⟨rfl, rfl⟩ := hc
    simp only [run, Option.some.injEq, Prod.mk.injEq] at hr
    obtain ⟨rfl, rfl⟩ := hr
    exact wp_skip (hQ a w g S hn hdf)
  | .region id ops draw, L, L', ac, hc, hd, s, s', x, hr, Q, a, w, g, S, hn, hdf, hQ => by
    simp only [comp] at hc
    obtain ⟨os, hos, hc⟩ := Option.bind_eq_some_iff.1 hc
    split at hc
    · cases hc
    · rename_i hdr
      simp only [Option.some.injEq, Prod.mk.injEq] at hc
      obtain ⟨rfl, rfl⟩ := hc
      simp only [run] at hr
      split at hr
      · rename_i s1 hs1
        simp only [Option.some.injEq, Prod.mk.injEq] at hr
        obtain ⟨rfl, rfl⟩ := hr
        obtain ⟨hR, hl⟩ := regC_of hos
        have hdst : ∀ o' ∈ os, ∀ d, o'.dst = some d → d < N := fun o' ho' d hdd => Nat.lt_of_lt_of_le (opsDst hd o' ho' d hdd) hnN
        cases draw with
        | false =>
          refine wp_region (idx_wp hx hR hl N hdst _ (s' := s1) ?_ S hn hdf hQ)
          rw [← hl, List.range_eq_range', runIdx_range call os os 0 s (by simp)]
          exact hs1
        | true =>
          have hok : drawOk ops.toList os = true := by
            cases hq : drawOk ops.toList os with
            | true => rfl
            | false => rw [hq] at hdr; simp at hdr
          exact wp_region_draw fun t => sched_wp hsw hx hR hl hok N hdst t hs1 S.drew hn hdf hQ
      · cases hr
  | .seq c1 c2, L, L', ac, hc, hd, s, s', x, hr, Q, a, w, g, S, hn, hdf, hQ => by
    simp only [comp] at hc
    split at hc
    · rename_i x1 L1 h1
      split at hc
      · rename_i x2 L2 h2
        simp only [Option.some.injEq, Prod.mk.injEq] at hc
        obtain ⟨rfl, rfl⟩ := hc
        simp only [dstOk, Bool.and_eq_true] at hd
        refine wp_seq ?_
        simp only [run] at hr
        split at hr
        · rename_i s1 hs1
          exact run_wp hx hsw nb k n N hnN c1 h1 hd.1 hs1 S hn hdf fun a' w' g' S' hn' hdf' =>
            run_wp hx hsw nb k n N hnN c2 h2 hd.2 hr S' hn' hdf' hQ
        · rename_i hne
          refine run_wp hx hsw nb k n N hnN c1 h1 hd.1 hr S hn hdf fun a' w' g' S' hn' hdf' => ?_
          have := hQ a' w' g' S' hn' hdf'
          cases x with
          | n => exact absurd hr (hne s')
          | e id => exact this
          | r => exact this
      · cases hc
    · cases hc
  | .cond q c1 c2, L, L', ac, hc, hd, s, s', x, hr, Q, a, w, g, S, hn, hdf, hQ => by
    simp only [comp] at hc
    split at hc
    · rename_i q' hq
      split at hc
      · rename_i x1 L1 h1
        split at hc
        · rename_i x2 L2 h2
          simp only [Option.some.injEq, Prod.mk.injEq] at hc
          obtain ⟨rfl, rfl⟩ := hc
          simp only [dstOk, Bool.and_eq_true] at hd
          simp only [run] at hr
          split at hr
          · rename_i b hb
            obtain ⟨σ, bx, h⟩ := s
            have k1 := opd_spec hq S
            rw [hb] at k1
            refine wp_cond k1.scal'.1 ?_
            cases b with
            | true => exact run_wp hx hsw nb k n N hnN c1 h1 hd.1 hr S hn hdf hQ
            | false => exact run_wp hx hsw nb k n N hnN c2 h2 hd.2 hr S hn hdf hQ
          · cases hr
        · cases hc
      · cases hc
    · cases hc
  | .block id b, L, L', ac, hc, hd, s, s', x, hr, Q, a, w, g, S, hn, hdf, hQ => by
    simp only [comp] at hc
    split at hc
    · rename_i x1 L1 h1
      simp only [Option.some.injEq, Prod.mk.injEq] at hc
      obtain ⟨rfl, rfl⟩ := hc
      refine wp_block ?_
      simp only [run] at hr
      split at hr
      · rename_i j s1 hs1
        split at hr
        · rename_i hj
          simp only [Option.some.injEq, Prod.mk.injEq] at hr
          obtain ⟨rfl, rfl⟩ := hr
          refine run_wp hx hsw nb k n N hnN b h1 hd hs1 S hn hdf fun a' w' g' S' hn' hdf' => ?_
          have := hQ a' w' g' S' hn' hdf'
          simp only [exitOf, Exit.inBlock, hj, if_true]
          exact this
        · rename_i hj
          simp only [Option.some.injEq, Prod.mk.injEq] at hr
          obtain ⟨rfl, rfl⟩ := hr
          refine run_wp hx hsw nb k n N hnN b h1 hd hs1 S hn hdf fun a' w' g' S' hn' hdf' => ?_
          have := hQ a' w' g' S' hn' hdf'
          simp only [exitOf, Exit.inBlock, hj, if_false]
          exact this
      · rename_i hne
        refine run_wp hx hsw nb k n N hnN b h1 hd hr S hn hdf fun a' w' g' S' hn' hdf' => ?_
        have := hQ a' w' g' S' hn' hdf'
        cases x with
        | n => exact this
        | e id' => exact absurd hr (hne id' s')
        | r => exact this
    · cases hc
  | .loop b, L, L', ac, hc, hd, s, s', x, hr, Q, a, w, g, S, hn, hdf, hQ => by
    simp only [comp] at hc
    split at hc
    · rename_i l L1
      split at hc
      · rename_i x1 L2 h1
        simp only [Option.some.injEq, Prod.mk.injEq] at hc
        obtain ⟨rfl, rfl⟩ := hc
        simp only [run] at hr
        refine wp_loop_ghost (fun m a w => ∃ s g, Sm w0 F Lb w s a.tmps g ∧ iter nb (run call nb k x1) l m s = some (x, s') ∧ a.tmps.size = N ∧ a.defers = []) k ⟨s, g, S, hr, hn, hdf⟩ ?_
        rintro m a w ⟨s, g, S, hr, hn, hdf⟩
        cases m with
        | zero => simp [iter] at hr
        | succ m =>
          simp only [iter] at hr
          obtain ⟨g1, S1⟩ := S.canon nb l
          split at hr
          · rename_i s1 hs1
            exact run_wp hx hsw nb k n N hnN b h1 hd hs1 S1 hn hdf fun a' w' g' S' hn' hdf' => ⟨m, Nat.lt_succ_self m, s1, g', S', hr, hn', hdf'⟩
          · rename_i hne
            refine run_wp hx hsw nb k n N hnN b h1 hd hr S1 hn hdf fun a' w' g' S' hn' hdf' => ?_
            have := hQ a' w' g' S' hn' hdf'
            cases x with
            | n => exact absurd hr (hne s')
            | e id => exact this
            | r => exact this
      · cases hc
    · cases hc
  | .exit id, L, L', ac, hc, hd, s, s', x, hr, Q, a, w, g, S, hn, hdf, hQ => by
    simp only [comp, Option.some.injEq, Prod.mk.injEq] at hc
    obtain ⟨rfl, rfl⟩ := hc
    simp only [run, Option.some.injEq, Prod.mk.injEq] at hr
    obtain ⟨rfl, rfl⟩ := hr
    exact wp_exit (hQ a w g S hn hdf)
  | .ret, L, L', ac, hc, hd, s, s', x, hr, Q, a, w, g, S, hn, hdf, hQ => by
    simp only [comp, Option.some.injEq, Prod.mk.injEq] at hc
    obtain ⟨rfl, rfl⟩ := hc
    simp only [run, Option.some.injEq, Prod.mk.injEq] at hr
    obtain ⟨rfl, rfl⟩ := hr
    exact wp_ret (hQ a w g S hn hdf)
  | .rangeFunc _ _ _ _, L, L', ac, hc, _, _, _, _, _, _, _, _, _, _, _, _, _ => by simp [comp] at hc
  | .scope _, L, L', ac, hc, _, _, _, _, _, _, _, _, _, _, _, _, _ => by simp [comp] at hc
  | .label _, L, L', ac, hc, _, _, _, _, _, _, _, _, _, _, _, _, _ => by simp [comp] at hc
  | .goto _, L, L', ac, hc, _, _, _, _, _, _, _, _, _, _, _, _, _ => by simp [comp] at hc
  | .refuse _, L, L', ac, hc, _, _, _, _, _, _, _, _, _, _, _, _, _ => by simp [comp] at hc

/-- The compiled functions are the program's. -/
def Comps (P : Program) (Γ : Nat → Option AF) : Prop := ∀ f af, Γ f = some af → ∃ fn H L, P.funcs[f]? = some fn ∧ compF P H L fn = some af

theorem call_step {Γ : Nat → Option AF} (hΓ : Comps P Γ) {k : Nat} (hx : ExecOk P (callF Γ k)) (hsw : P.follows .mixedOrders = true) : Good P (callF Γ (k + 1)) := by
  intro f args hc bs vs hc' bs' he hbs w F Lb g vals I hs
  simp only [callF] at he
  split at he
  · cases he
  · rename_i af haf
    obtain ⟨fn, H, L, hfn, hcf⟩ := hΓ f af haf
    unfold compF at hcf
    split at hcf
    · rename_i c hbody
      split at hcf
      · rename_i x rs hcomp hrs
        split at hcf
        · rename_i hdok
          obtain rfl := Option.some.inj hcf
          have S : Sm w F Lb w ⟨fun i => args.getD i .u, fun id => if id.1 = 0 then bs[id.2]? else none, hc⟩ (vals ++ Array.replicate (fn.ntmps - vals.size) undef) g := by
            refine ⟨I, fun i => ?_⟩
            have hl := hs.len
            simp only [List.getD_eq_getElem?_getD]
            cases hq : args[i]? with
            | none => simp [SR]
            | some sv =>
              obtain ⟨v, hv, hsv⟩ := hs.get hq
              have hv' : vals[i]? = some v := by simpa using hv
              have hlt : i < vals.size := (Array.getElem?_eq_some_iff.1 hv').1
              have : (vals ++ Array.replicate (fn.ntmps - vals.size) undef).getD i undef = v := by
                rw [Array.getD_eq_getD_getElem?, Array.getElem?_append_left hlt, hv']
                rfl
              rw [this]
              exact hsv
          have key : ∀ {s : St} {y : X}, run (callF Γ k) bs.length k x ⟨fun i => args.getD i .u, fun id => if id.1 = 0 then bs[id.2]? else none, hc⟩ = some (y, s) → (y = .n ∨ y = .r) → fin bs.length rs s = some (vs, hc', bs') →
              Calls P f vals w fun | .returned v, w' => Done w F Lb w' hc' vs bs' v | _, _ => False := by
            intro s y hrun hy hfin
            refine calls_of_wp hfn hbody (run_wp hx hsw bs.length k fn.ntmps _ ?_ c hcomp hdok hrun S rfl rfl ?_)
            · simp; omega
            · intro a' w' g' S' hn' hdf'
              obtain ⟨v, hv, hD⟩ := fin_spec hrs hbs S' hfin
              rcases hy with rfl | rfl <;> exact ⟨hdf', v, hv, hD⟩
          split at he
          · rename_i s hs1
            exact key hs1 (.inl rfl) he
          · rename_i s hs1
            exact key hs1 (.inr rfl) he
          · cases he
        · cases hcf
      · cases hcf
    · cases hcf
end
end AM

namespace AM
open Go

def nobx : BX := fun _ => none
section
variable {P : Program} {w0 w w' : World} {F F' : FS} {Lb : Lent} {bx bx' : BX} {h h' : Heap} {g g' : Gh} {σ : Nat → SV} {tmps : Array Value}

/-- A hole is filled. -/
theorem Inv.fill (I : Inv w0 F Lb w nobx h g) {id : Id} {p : Path} {t t' : T} {hs : Value} {B' : List Nat} (ht : h id = some t) (hat : t.at p = some .u) (hh : hdr w (g.hd id) t p = some hs) (hc : CR w F [t'] [hs] B') (hn : B'.Nodup)
    (hf : ∀ b ∈ B', Free nobx h g b ∧ (w0.heap.size ≤ b ∨ Lb b)) :
    ∃ g', Inv w0 F Lb w nobx (hput h id p t') g' ∧ g'.hd = g.hd ∧ g'.bb = g.bb ∧ (∀ q, q <+: p → hdr w (g.hd id) (t.set p t') q = hdr w (g.hd id) t q) ∧ (∀ b, Free nobx h g b → b ∉ B' → Free nobx (hput h id p t') g' b) ∧ ∀ b, b ∉ B' → g'.ow b = g.ow b := by
  obtain ⟨h1, h2, h3⟩ := I.ls id t ht
  obtain ⟨hs2, X, Bs, Y, hh2, hB, hsub, hback⟩ := h1.focus hat
  rw [hh] at hh2
  obtain rfl := Option.some.inj hh2
  have hBs : Bs = [] := by cases hsub with | u _ _ hr => cases hr; rfl
  subst hBs
  rw [List.append_nil] at hB
  obtain ⟨hc', hp'⟩ := hback w F t' B' (fun _ _ => rfl) (fun _ _ _ h => h) (fun _ h => h) hc
  have hdis : ∀ b ∈ B', b ∉ X ++ Y := fun b hb hm => (hf b hb).1.1 id t ht (by rw [hB]; exact hm)
  let g' : Gh := { g with fp := fun j => if j = id then X ++ B' ++ Y else g.fp j, ow := fun b => if b ∈ B' then some (.inl id) else g.ow b }
  refine ⟨g', ⟨I.FB, fun id' t2 ht2 => ?_, fun id' cs hcs => (by cases hcs), fun b hb => ?_, I.fr, I.sz, I.os, I.pin⟩, rfl, rfl, hp', fun b hb hnb => ⟨fun id' t2 ht2 hm => ?_, fun id' cs hcs => (by cases hcs)⟩, fun b hb => if_neg hb⟩
  · by_cases e : id' = id
    · subst e
      simp only [hput, if_true, ht, Option.map_some, Option.some.injEq] at ht2
      subst ht2
      refine ⟨by simpa [g'] using hc', ?_, fun b hb => ?_⟩
      · simp only [g', if_true]
        rw [hB] at h2
        obtain ⟨n1, n2, n3⟩ := List.nodup_append.1 h2
        refine List.nodup_append.2 ⟨List.nodup_append.2 ⟨n1, hn, fun x hx y hy e => hdis y hy (e ▸ by simp [hx])⟩, n2, fun x hx y hy e => ?_⟩
        rcases List.mem_append.1 hx with hx | hx
        · exact n3 x hx y hy e
        · exact hdis x hx (e ▸ by simp [hy])
      · simp only [g', if_true] at hb ⊢
        split
        · rfl
        · rename_i hnb
          refine h3 b ?_
          rw [hB]
          simp at hb ⊢
          rcases hb with hb | hb | hb
          · exact .inl hb
          · exact absurd hb hnb
          · exact .inr hb
    · simp only [hput, e, if_false] at ht2
      obtain ⟨k1, k2, k3⟩ := I.ls id' t2 ht2
      refine ⟨by simpa [g', e] using k1, by simpa [g', e] using k2, fun b hb => ?_⟩
      simp only [g', e, if_false] at hb ⊢
      rw [if_neg (fun hm => (hf b hm).1.1 id' t2 ht2 hb)]
      exact k3 b hb
  · simp only [g'] at hb
    split at hb
    · rename_i hm; exact (hf b hm).2
    · exact I.ow b hb
  · by_cases e : id' = id
    · subst e
      simp only [g', if_true] at hm
      simp at hm
      rcases hm with hm | hm | hm
      · exact hb.1 id' t ht (by rw [hB]; simp [hm])
      · exact hnb hm
      · exact hb.1 id' t ht (by rw [hB]; simp [hm])
    · simp only [hput, e, if_false] at ht2
      simp only [g', e, if_false] at hm
      exact hb.1 id' t2 ht2 hm
/-- A list comes to the callee under a lent name. -/
theorem Inv.lendL (I : Inv w0 F Lb w bx h g) {k : Nat} {t : T} {hv : Value} {B : List Nat} (hid : h (0, k) = none) (hc : CR w F [t] [hv] B) (hn : B.Nodup) (hf : ∀ b ∈ B, Free bx h g b ∧ ¬ F b) :
    Inv w0 F ⟨fun b => Lb b ∨ b ∈ B, fun j => if j = k then hv else Lb.hd j, Lb.bb⟩ w bx (hnew h (0, k) t) (g.newL (0, k) hv B) := by
  have E := Ext.newL (w := w) (F := F) (bx := bx) (g := g) (t := t) (hv := hv) (B := B) hid
  refine ⟨fun b hb => ⟨(I.FB b hb).1, fun hh => ?_⟩, fun id' t' ht => ?_, fun id' cs hcs => ?_, fun b hb => ?_, fun b hb hnb => I.fr b hb (fun h => hnb (.inl h)), I.sz, I.os, fun j hj => ?_, I.pin.2⟩
  · rcases hh with hh | hh
    · exact (I.FB b hb).2 hh
    · exact (hf b hh).2 hb
  · simp only [hnew] at ht
    by_cases e : id' = (0, k)
    · subst e
      simp only [if_true, Option.some.injEq] at ht
      subst ht
      exact ⟨by simpa [Gh.newL] using hc, by simpa [Gh.newL] using hn, fun b hb => by simp [Gh.newL] at hb ⊢; intro h; exact absurd hb h⟩
    · simp only [e, if_false] at ht
      obtain ⟨h1, h2, h3⟩ := I.ls id' t' ht
      refine ⟨by simpa [Gh.newL, e] using h1, by simpa [Gh.newL, e] using h2, fun b hb => ?_⟩
      simp only [Gh.newL, e, if_false] at hb ⊢
      rw [if_neg (fun hB => ((hf b hB).1.1 id' t' ht) hb)]
      exact h3 b hb
  · obtain ⟨h1, arr, el, ha, ho, hs⟩ := I.bs id' cs hcs
    refine ⟨?_, arr, el, ha, ho, SRL.ext E (keepsL_true _) hs⟩
    simp only [Gh.newL]
    rw [if_neg (fun hB => ((hf _ hB).1.2 id' cs hcs) rfl)]
    exact h1
  · simp only [Gh.newL] at hb
    split at hb
    · rename_i hB; exact .inr (.inr hB)
    · rcases I.ow b hb with h1 | h1
      · exact .inl h1
      · exact .inr (.inl h1)
  · simp only [Gh.newL]
    by_cases e : j = k
    · subst e; simp
    · have : ((0, j) : Id) ≠ (0, k) := fun e2 => e (by injection e2)
      simp [this, e, I.pin.1 j hj]
/-- A box comes to the callee. -/
theorem Inv.lendB (I : Inv w0 F Lb w bx h g) {k : Nat} {cs : List SV} {b : Nat} {arr : Array Value} {el : TypeId} (hid : bx (0, k) = none) (hb : w.heap[b]? = some (.cells arr el (0, 0))) (ho : ∀ x ∈ arr.toList, oc x = true) (hs : SRL w F bx h g cs arr.toList)
    (hf : Free bx h g b ∧ ¬ F b) : Inv w0 F ⟨fun x => Lb x ∨ x = b, Lb.hd, fun j => if j = k then b else Lb.bb j⟩ w (bnew bx (0, k) cs) h (g.newB (0, k) b) := by
  have E := Ext.newB (w := w) (F := F) (h := h) (g := g) (cs := cs) (b := b) hid
  refine ⟨fun x hx => ⟨(I.FB x hx).1, fun hh => ?_⟩, fun id' t' ht => ?_, fun id' cs' hcs => ?_, fun x hx => ?_, fun x hx hnx => I.fr x hx (fun h => hnx (.inl h)), I.sz, I.os, I.pin.1, fun j hj => ?_⟩
  · rcases hh with hh | hh
    · exact (I.FB x hx).2 hh
    · exact hf.2 (hh ▸ hx)
  · obtain ⟨h1, h2, h3⟩ := I.ls id' t' ht
    refine ⟨h1, h2, fun x hx => ?_⟩
    simp only [Gh.newB]
    rw [if_neg (fun e => hf.1.1 id' t' ht (by rw [← e]; exact hx))]
    exact h3 x hx
  · simp only [bnew] at hcs
    by_cases e : id' = (0, k)
    · subst e
      simp only [if_true, Option.some.injEq] at hcs
      subst hcs
      exact ⟨by simp [Gh.newB], arr, el, by simpa [Gh.newB] using hb, ho, SRL.ext E (keepsL_true _) hs⟩
    · simp only [e, if_false] at hcs
      obtain ⟨h1, arr', el', ha, ho', hs'⟩ := I.bs id' cs' hcs
      refine ⟨?_, arr', el', by simpa [Gh.newB, e] using ha, ho', SRL.ext E (keepsL_true _) hs'⟩
      simp only [Gh.newB, e, if_false]
      rw [if_neg (fun e2 => hf.1.2 id' cs' hcs e2)]
      exact h1
  · simp only [Gh.newB] at hx
    split at hx
    · rename_i e; exact .inr (.inr e)
    · rcases I.ow x hx with h1 | h1
      · exact .inl h1
      · exact .inr (.inl h1)
  · simp only [Gh.newB]
    by_cases e : j = k
    · subst e; simp
    · have : ((0, j) : Id) ≠ (0, k) := fun e2 => e (by injection e2)
      simp [this, e, I.pin.2 j hj]
theorem newL_free {id : Id} {t : T} {hv : Value} {B : List Nat} {b : Nat} (hb : Free bx h g b) (hn : b ∉ B) : Free bx (hnew h id t) (g.newL id hv B) b := by
  refine ⟨fun id' t' ht' hm => ?_, hb.2⟩
  simp only [hnew] at ht'
  simp only [Gh.newL] at hm
  by_cases e : id' = id
  · simp only [e, if_true] at hm; exact hn hm
  · simp only [e, if_false] at hm ht'; exact hb.1 id' t' ht' hm

/-- Cells' lists come to the callee under lent names. -/
theorem Inv.lendLs : ∀ {ts : List T} {vs : List Value} {ss : List SV} {h h1 : Heap} {g : Gh} {Lb : Lent} {k : Nat} {B : List Nat}, Inv w0 F Lb w bx h g → CR w F ts vs B → B.Nodup → (∀ b ∈ B, Free bx h g b ∧ ¬ F b) → giveL h 0 k ts = some (ss, h1) →
    ∃ Lb1 g1, Inv w0 F Lb1 w bx h1 g1 ∧ SRL w F bx h1 g1 ss vs ∧ (∀ b, Lb1 b ↔ Lb b ∨ b ∈ B) ∧ Ext F (fun _ _ => True) w bx h g w bx h1 g1 ∧ Lb1.bb = Lb.bb ∧ (∀ j, j < k → Lb1.hd j = Lb.hd j) ∧ (∀ b, Free bx h g b → b ∉ B → Free bx h1 g1 b)
  | [], vs, ss, h, h1, g, Lb, k, B, I, hc, _, _, he => by
    cases hc
    simp only [AM.giveL, Option.some.injEq, Prod.mk.injEq] at he
    obtain ⟨rfl, rfl⟩ := he
    exact ⟨Lb, g, I, trivial, by simp, Ext.refl _ _ _ _ _ _, rfl, fun _ _ => rfl, fun _ h _ => h⟩
  | t :: ts, vs, ss, h, h1, g, Lb, k, B, I, hc, hn, hf, he => by
    simp only [AM.giveL] at he
    split at he
    · rename_i s h2 h2e
      split at he
      · rename_i ss' h3 h3e
        simp only [Option.some.injEq, Prod.mk.injEq] at he
        obtain ⟨rfl, rfl⟩ := he
        obtain ⟨v, vs', B1, B2, rfl, rfl, c1, c2⟩ := hc.uncons
        obtain ⟨n1, n2, n3⟩ := List.nodup_append.1 hn
        have key : ∃ Lb1 g1, Inv w0 F Lb1 w bx h2 g1 ∧ SR w F bx h2 g1 s v ∧ (∀ b, Lb1 b ↔ Lb b ∨ b ∈ B1) ∧ Ext F (fun _ _ => True) w bx h g w bx h2 g1 ∧ Lb1.bb = Lb.bb ∧ (∀ j, j < k → Lb1.hd j = Lb.hd j) ∧ (∀ b, Free bx h g b → b ∉ B1 → Free bx h2 g1 b) := by
          unfold AM.give1 at h2e
          split at h2e
          · rename_i sz rows
            split at h2e
            · rename_i hid
              obtain ⟨rfl, rfl⟩ := Prod.mk.inj (Option.some.inj h2e)
              have hlk : ∃ a cap, v = .slice a rows.length cap ∧ slLook rows.length (.slice a rows.length cap) := by
                cases c1 with
                | own0 _ => exact ⟨_, 0, rfl, _, _, rfl, Nat.le_refl _, fun h => absurd h (by simp)⟩
                | own _ _ hl _ _ _ => exact ⟨_, _, rfl, _, _, rfl, hl, fun _ => ⟨_, _, rfl⟩⟩
              obtain ⟨a, cap, rfl, hl⟩ := hlk
              exact ⟨_, _, I.lendL hid c1 n1 (fun b hb => hf b (by simp [hb])), SR.root hl, fun b => Iff.rfl, Ext.newL hid, rfl, fun j hj => by simp [Nat.ne_of_lt hj], fun b hb hnb => newL_free hb hnb⟩
            · cases h2e
          · rename_i hno
            obtain ⟨rfl, rfl⟩ := Prod.mk.inj (Option.some.inj h2e)
            have hB : B1 = [] := by
              match t, c1 with
              | .u, .u _ _ h => cases h; rfl
              | .v _, .v _ _ h => cases h; rfl
              | .l false _ _, .imm0 h => cases h; rfl
              | .l false _ _, .imm _ _ _ _ _ _ h => cases h; rfl
              | .l true sz rows, _ => exact absurd rfl (hno sz rows)
            subst hB
            exact ⟨Lb, g, I, by simpa [SR] using c1, by simp, Ext.refl _ _ _ _ _ _, rfl, fun _ _ => rfl, fun _ h _ => h⟩
        obtain ⟨Lb1, g1, I1, s1, q1, E1, r1, p1, f1⟩ := key
        obtain ⟨Lb2, g2, I2, s2, q2, E2, r2, p2, f2⟩ := Inv.lendLs I1 c2 n2 (fun b hb => ⟨f1 b (hf b (by simp [hb])).1 (fun h => n3 b h b hb rfl), (hf b (by simp [hb])).2⟩) h3e
        exact ⟨Lb2, g2, I2, ⟨SR.ext E2 (keeps_true _) s1, s2⟩, fun b => by rw [q2, q1]; simp [or_assoc], E1.trans E2, r2.trans r1, fun j hj => (p2 j (by omega)).trans (p1 j hj), fun b hb hnb => f2 b (f1 b hb (fun h => hnb (by simp [h]))) (fun h => hnb (by simp [h]))⟩
      · cases he
    · cases he
/-- Behind holes: what is still reached lies where it lay. -/
def HH (w : World) (h h1 : Heap) : Prop := ∀ id t1 q x, h1 id = some t1 → t1.at q = some x → ∃ t x', h id = some t ∧ t.at q = some x' ∧ ∀ hv, hdr w hv t1 q = hdr w hv t q
theorem HH.refl (w : World) (h : Heap) : HH w h h := fun _ t1 _ x ht hx => ⟨t1, x, ht, hx, fun _ => rfl⟩
theorem HH.trans {h h1 h2 : Heap} (a : HH w h h1) (b : HH w h1 h2) : HH w h h2 := fun id t2 q x ht hx => by
  obtain ⟨t1, x1, h1, h2, h3⟩ := b id t2 q x ht hx
  obtain ⟨t, x', k1, k2, k3⟩ := a id t1 q x1 h1 h2
  exact ⟨t, x', k1, k2, fun hv => (h3 hv).trans (k3 hv)⟩
theorem hdr_hole (w : World) : ∀ {p q : Path} {t x : T}, (t.set p .u).at q = some x → ∃ x', t.at q = some x' ∧ ∀ hv, hdr w hv (t.set p .u) q = hdr w hv t q
  | [], [], t, x, h => ⟨t, rfl, fun _ => rfl⟩
  | [], (i, f) :: q, t, x, h => by simp [T.set, T.at] at h
  | (i, f) :: p, [], t, x, h => ⟨t, rfl, fun _ => by simp [hdr]⟩
  | (i, f) :: p, (i', f') :: q, t, x, h => by
    match t with
    | T.u => simp [T.set, T.at] at h
    | T.v _ => simp [T.set, T.at] at h
    | T.l false _ _ => simp [T.set, T.at] at h
    | T.l true sz rows =>
      simp only [T.set, T.at] at h
      by_cases hi : i' = i
      · subst hi
        cases hrow : rows[i']? with
        | none => simp [hrow] at h
        | some row =>
          by_cases hf : f' = f
          · subst hf
            cases ht1 : row[f']? with
            | none => simp [hrow, ht1] at h
            | some t1 =>
              simp [hrow, ht1] at h
              obtain ⟨x', k1, k2⟩ := hdr_hole w h
              refine ⟨x', by simp [T.at, hrow, ht1, k1], fun hv => ?_⟩
              simp only [T.set, hdr]
              cases blkOf hv with
              | none => rfl
              | some b =>
                simp [hrow, ht1]
                cases hc : w.cell? ⟨b, i' * sz + f', none⟩ with
                | none => rfl
                | some hv1 => exact k2 hv1
          · simp [hrow] at h
            rw [modify_ne hf] at h
            refine ⟨x, by simp [T.at, hrow]; exact h, fun hv => ?_⟩
            simp only [T.set, hdr]
            cases blkOf hv with
            | none => rfl
            | some b =>
              simp [hrow]
              rw [modify_ne hf]
      · rw [modify_ne hi] at h
        refine ⟨x, by simp only [T.at]; exact h, fun hv => ?_⟩
        simp only [T.set, hdr]
        rw [modify_ne hi]
theorem HH.hole (w : World) (h : Heap) (id : Id) (p : Path) : HH w h (hput h id p .u) := by
  intro id' t1 q x ht hx
  simp only [hput] at ht
  split at ht
  · rename_i e
    subst e
    obtain ⟨t, ht0, rfl⟩ := Option.map_eq_some_iff.1 ht
    obtain ⟨x', k1, k2⟩ := hdr_hole w hx
    exact ⟨t, x', ht0, k1, k2⟩
  · exact ⟨t1, x, ht, hx, fun _ => rfl⟩
theorem HH.mv1 {h h1 : Heap} {s : SV} {t : T} (he : AM.mv1 h s = some (t, h1)) : HH w h h1 := by
  unfold AM.mv1 at he
  split at he
  · obtain ⟨rfl, rfl⟩ := Prod.mk.inj (Option.some.inj he); exact .refl _ _
  · obtain ⟨rfl, rfl⟩ := Prod.mk.inj (Option.some.inj he); exact .refl _ _
  · split at he
    · split at he
      · obtain ⟨rfl, rfl⟩ := Prod.mk.inj (Option.some.inj he); exact .hole _ _ _ _
      · cases he
    · cases he
  · cases he
theorem HH.mvL : ∀ {ss : List SV} {h h1 : Heap} {ts : List T}, AM.mvL h ss = some (ts, h1) → HH w h h1
  | [], h, h1, ts, he => by
    simp only [AM.mvL, Option.some.injEq, Prod.mk.injEq] at he
    obtain ⟨rfl, rfl⟩ := he
    exact .refl _ _
  | s :: ss, h, h1, ts, he => by
    simp only [AM.mvL] at he
    split at he
    · rename_i t h2 h2e
      split at he
      · rename_i ts' h3 h3e
        simp only [Option.some.injEq, Prod.mk.injEq] at he
        obtain ⟨rfl, rfl⟩ := he
        exact (HH.mv1 h2e).trans (HH.mvL h3e)
      · cases he
    · cases he
end
end AM

namespace AM
open Go

section
variable {P : Program} {w0 w w' : World} {F F' : FS} {Lb : Lent} {bx bx' : BX} {h h' : Heap} {g g' : Gh} {σ : Nat → SV} {tmps : Array Value}

/-- What lending leaves, on either side. -/
structure LS (w0 : World) (F : FS) (Lb : Lent) (w : World) (σ : Nat → SV) (bx : BX) (tmps : Array Value) (h : Heap) (g : Gh) (L : Lend) (gL gc : Gh) (Lc : Lent) (Bl : List Nat) : Prop where
  mv : Mvd w0 F Lb w σ bx tmps h g L.h gL Bl
  hh : HH w h L.h
  ci : Inv w F Lc w (bx0 L.bs) L.hc gc
  lb : ∀ b, Lc b ↔ b ∈ Bl ∨ ∃ id, id ∈ L.bback ∧ b = g.bb id
  bk : ∀ e, e ∈ L.back → e.2.2.1 < L.k ∧ ∃ t rows a cap, h e.1 = some t ∧ t.at e.2.1 = some (.l true e.2.2.2 rows) ∧ hdr w (g.hd e.1) t e.2.1 = some (.slice a rows.length cap) ∧ Lc.hd e.2.2.1 = .slice a rows.length cap
  pw : L.back.Pairwise fun e e' => ¬(e.1 = e'.1 ∧ e.2.1 <+: e'.2.1) ∧ e.2.2.1 ≠ e'.2.2.1
  bb : L.bback.Nodup ∧ L.bback.length = L.bs.length ∧ ∀ j id, L.bback[j]? = some id → (∃ cs, bx id = some cs) ∧ Lc.bb j = g.bb id
  new : ∀ k, L.k ≤ k → L.hc (0, k) = none

/-- A block of the caller's that is not lent is nobody's with the callee. -/
theorem LS.free {L : Lend} {gL gc : Gh} {Lc : Lent} {Bl : List Nat} (S : LS w0 F Lb w σ bx tmps h g L gL gc Lc Bl) {b : Nat} (hlt : b < w.heap.size) (h1 : b ∉ Bl) (h2 : ∀ id, id ∈ L.bback → b ≠ g.bb id) : Free (bx0 L.bs) L.hc gc b := by
  have hno : gc.ow b = none := by
    refine Classical.byContradiction fun hne => ?_
    rcases S.ci.ow b hne with hw | hw
    · omega
    · rcases (S.lb b).1 hw with hw | ⟨id, hid, hw⟩
      · exact h1 hw
      · exact h2 id hid hw
  refine ⟨fun id t ht hm => ?_, fun id cs hc he => ?_⟩
  · rw [(S.ci.ls id t ht).2.2 b hm] at hno; cases hno
  · rw [← he, (S.ci.bs id cs hc).1] at hno; cases hno
theorem LS.not_box {L : Lend} {gL gc : Gh} {Lc : Lent} {Bl : List Nat} (S : LS w0 F Lb w σ bx tmps h g L gL gc Lc Bl) {id : Id} (hid : id ∈ L.bback) : ∃ cs, bx id = some cs := by
  obtain ⟨j, hj, rfl⟩ := List.getElem_of_mem hid
  exact (S.bb.2.2 j _ (List.getElem?_eq_getElem hj)).1

theorem giveL_new : ∀ {ts : List T} {ss : List SV} {h h1 : Heap} {k : Nat}, giveL h 0 k ts = some (ss, h1) → (∀ j, k ≤ j → h (0, j) = none) → ∀ j, k + ts.length ≤ j → h1 (0, j) = none
  | [], ss, h, h1, k, he, hn, j, hj => by
    simp only [giveL, Option.some.injEq, Prod.mk.injEq] at he
    obtain ⟨_, rfl⟩ := he
    exact hn j (by simpa using hj)
  | t :: ts, ss, h, h1, k, he, hn, j, hj => by
    simp only [giveL] at he
    split at he
    · rename_i s h2 h2e
      split at he
      · rename_i ss' h3 h3e
        simp only [Option.some.injEq, Prod.mk.injEq] at he
        obtain ⟨_, rfl⟩ := he
        simp only [List.length_cons] at hj
        refine giveL_new h3e (fun j hj => ?_) j (by omega)
        unfold give1 at h2e
        split at h2e
        · split at h2e
          · obtain ⟨_, rfl⟩ := Prod.mk.inj (Option.some.inj h2e)
            simp only [hnew]
            rw [if_neg (fun e => by injection e with _ e; omega)]
            exact hn j (by omega)
          · cases h2e
        · obtain ⟨_, rfl⟩ := Prod.mk.inj (Option.some.inj h2e)
          exact hn j (by omega)
      · cases he
    · cases he

theorem bx0_snoc (bs : List (List SV)) (ss : List SV) : bnew (bx0 bs) (0, bs.length) ss = bx0 (bs ++ [ss]) := by
  funext ⟨a, b⟩
  simp only [bnew, bx0]
  by_cases h0 : a = 0
  · subst h0
    by_cases h1 : b = bs.length
    · subst h1; simp
    · have : ((0, b) : Id) ≠ (0, bs.length) := fun e => h1 (by injection e)
      simp only [this, if_false, if_true]
      rcases Nat.lt_or_gt_of_ne h1 with hl | hl
      · rw [List.getElem?_append_left hl]
      · rw [List.getElem?_eq_none (by omega), List.getElem?_eq_none (by simp; omega)]
  · have : ((a, b) : Id) ≠ (0, bs.length) := fun e => h0 (by injection e)
    simp [this, h0]

/-- What one lent thing leaves. -/
structure LStep (w0 : World) (F : FS) (Lb : Lent) (w : World) (σ : Nat → SV) (bx : BX) (tmps : Array Value) (h : Heap) (g : Gh) (L : Lend) (gc : Gh) (L' : Lend) (gL' gc' : Gh) (Lc' : Lent) (Bl' : List Nat) : Prop where
  ls : LS w0 F Lb w σ bx tmps h g L' gL' gc' Lc' Bl'
  ext : Ext F (fun _ _ => True) w (bx0 L.bs) L.hc gc w (bx0 L'.bs) L'.hc gc'

theorem LS.lend1 {L L' : Lend} {gL gc : Gh} {Lc : Lent} {Bl : List Nat} (S : LS w0 F Lb w σ bx tmps h g L gL gc Lc Bl) (I0 : Inv w0 F Lb w bx h g) {s s' : SV} {v : Value} (hs : SR w F bx h g s v) (he : lend1 bx L s = some (s', L')) :
    ∃ gL' gc' Lc' Bl', LStep w0 F Lb w σ bx tmps h g L gc L' gL' gc' Lc' Bl' ∧ SR w F (bx0 L'.bs) L'.hc gc' s' v := by
  unfold AM.lend1 at he
  split at he
  · obtain ⟨rfl, rfl⟩ := Prod.mk.inj (Option.some.inj he)
    exact ⟨gL, gc, Lc, Bl, ⟨S, Ext.refl _ _ _ _ _ _⟩, by simp [SR]⟩
  · rename_i t
    obtain ⟨rfl, rfl⟩ := Prod.mk.inj (Option.some.inj he)
    refine ⟨gL, gc, Lc, Bl, ⟨S, Ext.refl _ _ _ _ _ _⟩, ?_⟩
    simp only [SR] at hs ⊢
    exact hs.freeze (fun _ h => h) (by simp)
  · rename_i id p sz lo n
    split at he
    · rename_i sz' rows hq
      split at he
      · rename_i hc
        obtain ⟨rfl, rfl, rfl, hall⟩ := hc
        obtain ⟨rfl, rfl⟩ := Prod.mk.inj (Option.some.inj he)
        obtain ⟨tL, htL, hat⟩ := Option.bind_eq_some_iff.1 hq
        have hsL := SR.ext S.mv.ext (keeps_true _) hs
        simp only [SR] at hs hsL
        obtain ⟨hlk, t, ht, _⟩ := hs
        obtain ⟨_, t1, ht1, hsL⟩ := hsL
        rw [htL] at ht1
        obtain rfl := Option.some.inj ht1
        obtain ⟨hv, hh, hsub⟩ := hsL rows hat
        obtain ⟨tL', htL', hl⟩ := S.mv.ext.l id t p ht trivial
        rw [htL] at htL'
        obtain rfl := Option.some.inj htL'
        obtain ⟨rows0, hat0, hlen, hhd⟩ := hl _ rows hat
        obtain ⟨hs2, B, g', hh2, hcr, hnd, hfr, hS, hE, hmono, hwas, e1, e2, e3⟩ := S.mv.sm.hole htL hat
        rw [hh] at hh2
        obtain rfl := Option.some.inj hh2
        have M : Mvd w0 F Lb w σ bx tmps L.h gL (hput L.h id p .u) g' B := ⟨hnd, hfr, hS, hE, hmono, fun b hb hfree => by
          obtain ⟨id', t', ht', hm⟩ := hwas b hb
          exact hfree.1 id' t' ht' hm, fun j => hput_dom j, e1, e2, e3⟩
        have M2 := S.mv.trans M
        have hfreeB : ∀ b ∈ B, Free (bx0 L.bs) L.hc gc b ∧ ¬ F b := by
          intro b hb
          obtain ⟨id', t', ht', hm⟩ := hwas b hb
          have hb1 : b ∉ Bl := fun hbl => (S.mv.fr b hbl).1.1 id' t' ht' hm
          refine ⟨S.free ((S.mv.sm.inv.ls id' t' ht').1.lt b hm) hb1 (fun id2 hid2 he2 => ?_), ?_⟩
          · obtain ⟨cs, hcs⟩ := S.not_box hid2
            exact (hfr b hb).1.2 id2 cs hcs (by rw [e2, S.mv.same.2.1]; exact he2.symm)
          · exact S.mv.sm.inv.F_not (by rw [(S.mv.sm.inv.ls id' t' ht').2.2 b hm]; simp)
        have hnone := S.new L.k (Nat.le_refl _)
        have I1 := S.ci.lendL hnone hcr hnd hfreeB
        have hsl : ∃ a cap, hv = .slice a rows.length cap := by
          cases hcr with
          | own0 _ => exact ⟨_, _, rfl⟩
          | own _ _ _ _ _ _ => exact ⟨_, _, rfl⟩
        obtain ⟨a, cap, rfl⟩ := hsl
        refine ⟨g', gc.newL (0, L.k) _ B, _, Bl ++ B, ⟨⟨M2, S.hh.trans (.hole _ _ _ _), I1, fun b => ?_, fun e he => ?_, ?_, S.bb, fun k hk => ?_⟩, Ext.newL hnone⟩, ?_⟩
        · show (Lc b ∨ b ∈ B) ↔ _
          rw [S.lb b]
          simp only [List.mem_append]
          constructor
          · rintro ((h1 | h1) | h1)
            · exact .inl (.inl h1)
            · exact .inr h1
            · exact .inl (.inr h1)
          · rintro ((h1 | h1) | h1)
            · exact .inl (.inl h1)
            · exact .inr h1
            · exact .inl (.inr h1)
        · rcases List.mem_cons.1 he with rfl | he
          · refine ⟨Nat.lt_succ_self _, t, rows0, a, cap, ht, hat0, ?_, ?_⟩
            · show hdr w (g.hd id) t p = _
              rw [← hhd, hh, hlen]
            · simp [hlen]
          · obtain ⟨k1, t', rows', a', cap', q1, q2, q3, q4⟩ := S.bk e he
            exact ⟨Nat.lt_succ_of_lt k1, t', rows', a', cap', q1, q2, q3, by simp [Nat.ne_of_lt k1, q4]⟩
        · refine List.pairwise_cons.2 ⟨fun e he => ⟨?_, ?_⟩, S.pw⟩
          · rintro ⟨r1, r2⟩
            have := List.all_eq_true.1 hall e he
            simp only [Bool.not_eq_true', Bool.and_eq_false_iff, beq_eq_false_iff_ne, ne_eq] at this
            rcases this with h1 | h1
            · exact h1 r1
            · have r3 := List.isPrefixOf_iff_prefix.2 r2
              rw [r3] at h1
              cases h1
          · exact Nat.ne_of_gt (S.bk e he).1
        · simp only [hnew]
          have hk' : L.k + 1 ≤ k := hk
          rw [if_neg (fun e => by injection e with _ e; omega)]
          exact S.new k (by omega)
        · simp only [SR]
          refine ⟨hlk, .l true sz rows, by simp [hnew], fun rows' _ => ⟨_, by simp [hdr, Gh.newL], hsub⟩⟩
      · cases he
    · cases he
  · rename_i id
    split at he
    · cases he
    · rename_i hnc
      split at he
      · rename_i cs hcs
        split at he
        · rename_i ts h1 hmv
          split at he
          · rename_i ss hc1 hgv
            obtain ⟨rfl, rfl⟩ := Prod.mk.inj (Option.some.inj he)
            obtain ⟨hbow, arr, el, harr, hoc, hsr⟩ := S.mv.sm.inv.bs id cs hcs
            obtain ⟨g1, B, hcr, M⟩ := S.mv.sm.mvL hsr hoc hmv
            have M2 := S.mv.trans M
            have hbb : gL.bb id = g.bb id := by rw [S.mv.same.2.1]
            have hnb : id ∉ L.bback := by simpa using hnc
            have how : g.ow (g.bb id) = some (.inr id) := (I0.bs id cs hcs).1
            have hfreeB : ∀ b ∈ B, Free (bx0 L.bs) L.hc gc b ∧ ¬ F b := by
              intro b hb
              have hb1 : b ∉ Bl := fun hbl => M.was b hb (S.mv.fr b hbl).1
              have hlt : b < w.heap.size := hcr.lt b hb
              have hb2 : ∀ id2 cs2, bx id2 = some cs2 → b ≠ g.bb id2 := fun id2 cs2 hc2 he2 => (M.fr b hb).1.2 id2 cs2 hc2 (by rw [M.same.2.1, S.mv.same.2.1]; exact he2.symm)
              refine ⟨S.free hlt hb1 (fun id2 hid2 => ?_), ?_⟩
              · obtain ⟨cs2, hcs2⟩ := S.not_box hid2
                exact hb2 id2 cs2 hcs2
              · intro hF
                rcases (M.fr b hb).2 with h3 | h3
                · exact absurd (I0.FB b hF).1 (by omega)
                · exact (I0.FB b hF).2 h3
            obtain ⟨Lb1, gc1, I1, s1, q1, E1, r1, p1, f1⟩ := Inv.lendLs S.ci hcr M.nd hfreeB hgv
            have hboxB : g.bb id ∉ B := fun hb => (M.fr _ hb).1.2 id cs hcs (by rw [M.same.2.1]; exact hbb)
            have hboxBl : g.bb id ∉ Bl := fun hb => (S.mv.fr _ hb).1.2 id cs hcs hbb
            have hboxF : Free (bx0 L.bs) L.hc gc (g.bb id) := S.free (by rw [← hbb]; exact heap_lt harr) hboxBl (fun id2 hid2 he2 => by
              obtain ⟨cs2, hcs2⟩ := S.not_box hid2
              have := (I0.bs id2 cs2 hcs2).1
              rw [← he2, how] at this
              injection this with this
              injection this with this
              exact hnb (this ▸ hid2))
            have hFree1 := f1 _ hboxF hboxB
            have hnone : bx0 L.bs (0, L.bs.length) = none := by simp [bx0]
            have harr' : w.heap[g.bb id]? = some (.cells arr el (0, 0)) := by rw [← hbb]; exact harr
            have I2 := I1.lendB hnone harr' hoc s1 ⟨hFree1, I0.F_not (by rw [how]; simp)⟩
            rw [bx0_snoc] at I2
            have E2 : Ext F (fun _ _ => True) w (bx0 L.bs) hc1 gc1 w (bx0 (L.bs ++ [ss])) hc1 (gc1.newB (0, L.bs.length) (g.bb id)) := by
              rw [← bx0_snoc]
              exact Ext.newB hnone
            refine ⟨g1, _, _, Bl ++ B, ⟨⟨M2, S.hh.trans (.mvL hmv), I2, fun b => ?_, fun e he => ?_, S.pw, ⟨?_, ?_, fun j id' hj => ?_⟩, fun k hk => ?_⟩, E1.trans E2⟩, ?_⟩
            · show (Lb1 b ∨ b = g.bb id) ↔ _
              rw [q1 b, S.lb b]
              simp only [List.mem_append, List.mem_singleton]
              constructor
              · rintro (((h1 | ⟨id2, h1, h2⟩) | h1) | h1)
                · exact .inl (.inl h1)
                · exact .inr ⟨id2, .inl h1, h2⟩
                · exact .inl (.inr h1)
                · exact .inr ⟨id, .inr rfl, h1⟩
              · rintro ((h1 | h1) | ⟨id2, h1 | h1, h2⟩)
                · exact .inl (.inl (.inl h1))
                · exact .inl (.inr h1)
                · exact .inl (.inl (.inr ⟨id2, h1, h2⟩))
                · subst h1; exact .inr h2
            · obtain ⟨k1, t', rows', a', cap', u1, u2, u3, u4⟩ := S.bk e he
              exact ⟨Nat.lt_of_lt_of_le k1 (Nat.le_add_right _ _), t', rows', a', cap', u1, u2, u3, by show Lb1.hd _ = _; rw [p1 _ k1]; exact u4⟩
            · exact List.nodup_append.2 ⟨S.bb.1, by simp, fun x hx y hy e => hnb (by simp only [List.mem_singleton] at hy; rw [← hy, ← e]; exact hx)⟩
            · simp [S.bb.2.1]
            · show _ ∧ (if j = L.bs.length then g.bb id else Lb1.bb j) = _
              by_cases hjl : j = L.bs.length
              · subst hjl
                rw [← S.bb.2.1] at hj
                simp at hj
                subst hj
                exact ⟨⟨cs, hcs⟩, by simp⟩
              · have hj' : L.bback[j]? = some id' := by
                  rcases Nat.lt_or_ge j L.bback.length with hl | hl
                  · rw [List.getElem?_append_left hl] at hj; exact hj
                  · rw [List.getElem?_eq_none (by simp; have := S.bb.2.1; omega)] at hj; cases hj
                rw [if_neg hjl, r1]
                exact S.bb.2.2 j id' hj'
            · exact giveL_new hgv S.new k hk
            · simp only [SR] at hs ⊢
              refine ⟨⟨ss, by simp [bx0]⟩, ?_⟩
              rw [hs.2]
              simp [Gh.newB]
          · cases he
        · cases he
      · cases he
  · cases he

theorem LS.lendL : ∀ {ss ss' : List SV} {vs : List Value} {L L' : Lend} {gL gc : Gh} {Lc : Lent} {Bl : List Nat}, LS w0 F Lb w σ bx tmps h g L gL gc Lc Bl → Inv w0 F Lb w bx h g → SRL w F bx h g ss vs → lendL bx L ss = some (ss', L') →
    ∃ gL' gc' Lc' Bl', LStep w0 F Lb w σ bx tmps h g L gc L' gL' gc' Lc' Bl' ∧ SRL w F (bx0 L'.bs) L'.hc gc' ss' vs
  | [], ss', [], L, L', gL, gc, Lc, Bl, S, I0, _, he => by
    simp only [AM.lendL, Option.some.injEq, Prod.mk.injEq] at he
    obtain ⟨rfl, rfl⟩ := he
    exact ⟨gL, gc, Lc, Bl, ⟨S, Ext.refl _ _ _ _ _ _⟩, trivial⟩
  | s :: ss, ss', v :: vs, L, L', gL, gc, Lc, Bl, S, I0, hs, he => by
    simp only [AM.lendL] at he
    split at he
    · rename_i t L1 h1
      split at he
      · rename_i ts L2 h2
        obtain ⟨rfl, rfl⟩ := Prod.mk.inj (Option.some.inj he)
        obtain ⟨gL1, gc1, Lc1, Bl1, S1, r1⟩ := S.lend1 I0 hs.1 h1
        obtain ⟨gL2, gc2, Lc2, Bl2, S2, r2⟩ := LS.lendL S1.ls I0 hs.2 h2
        exact ⟨gL2, gc2, Lc2, Bl2, ⟨S2.ls, S1.ext.trans S2.ext⟩, SR.ext S2.ext (keeps_true _) r1, r2⟩
      · cases he
    · cases he
  | [], _, _ :: _, _, _, _, _, _, _, _, _, hh, _ => by cases hh
  | _ :: _, _, [], _, _, _, _, _, _, _, _, hh, _ => by cases hh
theorem LS.lendA {L L' : Lend} {gL gc : Gh} {Lc : Lent} {Bl : List Nat} (S : LS w0 F Lb w σ bx tmps h g L gL gc Lc Bl) (I0 : Inv w0 F Lb w bx h g) {s s' : SV} {v : Value} (hs : SR w F bx h g s v) (he : lendA bx L s = some (s', L')) :
    ∃ gL' gc' Lc' Bl', LStep w0 F Lb w σ bx tmps h g L gc L' gL' gc' Lc' Bl' ∧ SR w F (bx0 L'.bs) L'.hc gc' s' v := by
  unfold AM.lendA at he
  split at he
  · split at he
    · rename_i cs ts L1 h1
      obtain ⟨rfl, rfl⟩ := Prod.mk.inj (Option.some.inj he)
      simp only [SR] at hs
      obtain ⟨arr, rfl, ho, hs⟩ := hs
      obtain ⟨gL2, gc2, Lc2, Bl2, S2, r2⟩ := S.lendL I0 hs h1
      exact ⟨gL2, gc2, Lc2, Bl2, S2, by simp only [SR]; exact ⟨arr, rfl, ho, r2⟩⟩
    · cases he
  · exact S.lend1 I0 hs he
theorem LS.lendAs : ∀ {ss ss' : List SV} {vs : List Value} {L L' : Lend} {gL gc : Gh} {Lc : Lent} {Bl : List Nat}, LS w0 F Lb w σ bx tmps h g L gL gc Lc Bl → Inv w0 F Lb w bx h g → SRL w F bx h g ss vs → lendAs bx L ss = some (ss', L') →
    ∃ gL' gc' Lc' Bl', LStep w0 F Lb w σ bx tmps h g L gc L' gL' gc' Lc' Bl' ∧ SRL w F (bx0 L'.bs) L'.hc gc' ss' vs
  | [], ss', [], L, L', gL, gc, Lc, Bl, S, I0, _, he => by
    simp only [AM.lendAs, Option.some.injEq, Prod.mk.injEq] at he
    obtain ⟨rfl, rfl⟩ := he
    exact ⟨gL, gc, Lc, Bl, ⟨S, Ext.refl _ _ _ _ _ _⟩, trivial⟩
  | s :: ss, ss', v :: vs, L, L', gL, gc, Lc, Bl, S, I0, hs, he => by
    simp only [AM.lendAs] at he
    split at he
    · rename_i t L1 h1
      split at he
      · rename_i ts L2 h2
        obtain ⟨rfl, rfl⟩ := Prod.mk.inj (Option.some.inj he)
        obtain ⟨gL1, gc1, Lc1, Bl1, S1, r1⟩ := S.lendA I0 hs.1 h1
        obtain ⟨gL2, gc2, Lc2, Bl2, S2, r2⟩ := LS.lendAs S1.ls I0 hs.2 h2
        exact ⟨gL2, gc2, Lc2, Bl2, ⟨S2.ls, S1.ext.trans S2.ext⟩, SR.ext S2.ext (keeps_true _) r1, r2⟩
      · cases he
    · cases he
  | [], _, _ :: _, _, _, _, _, _, _, _, _, hh, _ => by cases hh
  | _ :: _, _, [], _, _, _, _, _, _, _, _, hh, _ => by cases hh
theorem LS.start (S : Sm w0 F Lb w ⟨σ, bx, h⟩ tmps g) : ∃ gc, LS w0 F Lb w σ bx tmps h g ⟨h, fun _ => none, 0, [], [], []⟩ g gc noLent [] := by
  refine ⟨gh0, .none S, .refl _ _, Inv.enter fun b hb => Nat.lt_of_lt_of_le (S.inv.FB b hb).1 S.inv.sz, fun b => ?_, fun e he => (by cases he), .nil, ⟨.nil, rfl, fun j id hj => by simp at hj⟩, fun _ _ => rfl⟩
  simp [noLent]
end
end AM

namespace AM
open Go

theorem hdr_set_ne (w : World) (x : T) : ∀ {p q : Path} {t : T}, ¬ p <+: q → (t.set p x).at q = some .u → t.at q = some .u ∧ ∀ hv, hdr w hv (t.set p x) q = hdr w hv t q
  | [], q, t, hn, _ => absurd List.nil_prefix hn
  | (i, f) :: p, [], t, hn, h => by
    refine ⟨?_, fun hv => by simp [hdr]⟩
    match t with
    | T.u => rfl
    | T.v _ => simpa [T.set] using h
    | T.l _ _ _ => simp [T.set, T.at] at h
  | (i, f) :: p, (i', f') :: q, t, hn, h => by
    match t with
    | T.u => simp [T.set, T.at] at h
    | T.v _ => simp [T.set, T.at] at h
    | T.l false _ _ => simp [T.set, T.at] at h
    | T.l true sz rows =>
      simp only [T.set, T.at] at h
      by_cases hi : i' = i
      · subst hi
        cases hrow : rows[i']? with
        | none => simp [hrow] at h
        | some row =>
          by_cases hf : f' = f
          · subst hf
            cases ht1 : row[f']? with
            | none => simp [hrow, ht1] at h
            | some t1 =>
              simp [hrow, ht1] at h
              obtain ⟨k1, k2⟩ := hdr_set_ne w x (fun hp => hn (List.cons_prefix_cons.2 ⟨rfl, hp⟩)) h
              refine ⟨by simp [T.at, hrow, ht1, k1], fun hv => ?_⟩
              simp only [T.set, hdr]
              cases blkOf hv with
              | none => rfl
              | some b =>
                simp [hrow, ht1]
                cases hc : w.cell? ⟨b, i' * sz + f', none⟩ with
                | none => rfl
                | some hv1 => exact k2 hv1
          · simp [hrow] at h
            rw [modify_ne hf] at h
            refine ⟨by simp [T.at, hrow]; exact h, fun hv => ?_⟩
            simp only [T.set, hdr]
            cases blkOf hv with
            | none => rfl
            | some b =>
              simp [hrow]
              rw [modify_ne hf]
      · rw [modify_ne hi] at h
        refine ⟨by simp only [T.at]; exact h, fun hv => ?_⟩
        simp only [T.set, hdr]
        rw [modify_ne hi]

section
variable {P : Program} {w0 w w' : World} {F F' : FS} {Lb Lc : Lent} {bx bx' : BX} {h h' : Heap} {g g' : Gh} {σ : Nat → SV} {tmps : Array Value}

/-- What is kept of lists. -/
def Rel (K : Id → Path → Prop) (w : World) (h : Heap) (g : Gh) (w' : World) (h' : Heap) (g' : Gh) : Prop :=
  ∀ id t q, h id = some t → K id q → ∃ t', h' id = some t' ∧ ∀ sz rows', t'.at q = some (.l true sz rows') → ∃ rows, t.at q = some (.l true sz rows) ∧ rows.length = rows'.length ∧ hdr w' (g'.hd id) t' q = hdr w (g.hd id) t q
/-- What came back. -/
structure Got (w0 : World) (F : FS) (Lb Lc : Lent) (w' : World) (hc : Heap) (gq : Gh) : Prop where
  cr : ∀ k t, hc (0, k) = some t → k < CAN → CR w' F [t] [Lc.hd k] (gq.fp (0, k)) ∧ (gq.fp (0, k)).Nodup ∧ ∀ b ∈ gq.fp (0, k), gq.ow b = some (.inl (0, k)) ∧ (w0.heap.size ≤ b ∨ Lb b)
def Apart (hc : Heap) (gq : Gh) (b : Nat) : Prop := ∀ k t, hc (0, k) = some t → b ∉ gq.fp (0, k)

theorem giveBack_spec {hc : Heap} {gq : Gh} (G : Got w0 F Lb Lc w' hc gq) {K : Id → Path → Prop} : ∀ {back : List (Id × Path × Nat × Nat)} {hi h0 : Heap} {gi : Gh}, Inv w0 F Lb w' nobx hi gi →
    (back.Pairwise fun e e' => ¬(e.1 = e'.1 ∧ e.2.1 <+: e'.2.1) ∧ e.2.2.1 ≠ e'.2.2.1) → (∀ e ∈ back, ∀ q, K e.1 q → q <+: e.2.1) →
    (∀ e ∈ back, e.2.2.1 < CAN ∧ ∃ t rows a cap, h e.1 = some t ∧ t.at e.2.1 = some (.l true e.2.2.2 rows) ∧ hdr w (g.hd e.1) t e.2.1 = some (.slice a rows.length cap) ∧ Lc.hd e.2.2.1 = .slice a rows.length cap) →
    (∀ e ∈ back, ∀ t', hi e.1 = some t' → t'.at e.2.1 = some .u → hdr w' (gi.hd e.1) t' e.2.1 = some (Lc.hd e.2.2.1)) → Rel K w h g w' hi gi →
    (∀ e ∈ back, ∀ t, hc (0, e.2.2.1) = some t → ∀ b ∈ gq.fp (0, e.2.2.1), Free nobx hi gi b) → giveBack hc back hi = some h0 →
    ∃ g0, Inv w0 F Lb w' nobx h0 g0 ∧ Rel K w h g w' h0 g0 ∧ g0.bb = gi.bb ∧ (∀ b, Free nobx hi gi b → Apart hc gq b → Free nobx h0 g0 b) ∧ ∀ b, Apart hc gq b → g0.ow b = gi.ow b
  | [], hi, h0, gi, I, _, _, _, _, R, _, he => by
    simp only [giveBack, Option.some.injEq] at he
    subst he
    exact ⟨gi, I, R, rfl, fun _ h _ => h, fun _ _ => rfl⟩
  | (id, p, k, sz) :: back, hi, h0, gi, I, hpw, hK, hbk, hH, R, hFr, he => by
    obtain ⟨pw1, pw2⟩ := List.pairwise_cons.1 hpw
    have tK := fun e (he : e ∈ back) => hK e (List.mem_cons_of_mem _ he)
    have tbk := fun e (he : e ∈ back) => hbk e (List.mem_cons_of_mem _ he)
    simp only [giveBack] at he
    split at he
    · rename_i s rows hck hhole
      split at he
      · rename_i hs
        subst hs
        obtain ⟨hkC, t, rows0, a, cap, ht, hat, hhd, hLc⟩ := hbk _ List.mem_cons_self
        simp only at hkC ht hat hhd hLc
        obtain ⟨t', ht', hat'⟩ := Option.bind_eq_some_iff.1 hhole
        have hd1 := hH _ List.mem_cons_self t' ht' hat'
        simp only at hd1
        obtain ⟨c1, c2, c3⟩ := G.cr k _ hck hkC
        obtain ⟨g1, I1, e1, e2, e3, e4, e5⟩ := I.fill ht' hat' hd1 c1 c2 (fun b hb => ⟨hFr _ List.mem_cons_self _ hck b hb, (c3 b hb).2⟩)
        have hlen : rows.length = rows0.length := by
          rw [hLc] at c1
          generalize rows0.length = n, gq.fp (0, k) = B0 at c1
          cases c1 with
          | own0 _ => rfl
          | own _ _ _ _ _ _ => rfl
        have R1 : Rel K w h g w' (hput hi id p (.l true s rows)) g1 := by
          intro id' t2 q ht2 hKq
          obtain ⟨t3, ht3, hr⟩ := R id' t2 q ht2 hKq
          by_cases e : id' = id
          · subst e
            rw [ht'] at ht3
            obtain rfl := Option.some.inj ht3
            rw [ht] at ht2
            obtain rfl := Option.some.inj ht2
            have hq := hK _ List.mem_cons_self q hKq
            simp only at hq
            refine ⟨t'.set p (.l true s rows), by simp [hput, ht'], fun sz' rows' hat2 => ?_⟩
            rw [e1, e3 q hq]
            by_cases eq : q = p
            · subst eq
              rw [at_set_self hat'] at hat2
              simp only [Option.some.injEq, T.l.injEq, true_and] at hat2
              obtain ⟨rfl, rfl⟩ := hat2
              exact ⟨rows0, hat, hlen.symm, by rw [hd1, hhd, hLc]⟩
            · obtain ⟨sz2, r1, r2, q1, q2, q3⟩ := at_set_prefix hat' hq eq hat2
              simp only [T.l.injEq, true_and] at q1
              obtain ⟨rfl, rfl⟩ := q1
              obtain ⟨r0, u1, u2, u3⟩ := hr _ r1 q2
              exact ⟨r0, u1, u2.trans q3, u3⟩
          · exact ⟨t3, by simp [hput, e, ht3], by rw [e1]; exact hr⟩
        have hH1 : ∀ e ∈ back, ∀ t', hput hi id p (.l true s rows) e.1 = some t' → t'.at e.2.1 = some .u → hdr w' (g1.hd e.1) t' e.2.1 = some (Lc.hd e.2.2.1) := by
          intro e he' t2 ht2 hat2
          rw [e1]
          simp only [hput] at ht2
          split at ht2
          · rename_i heq
            rw [ht'] at ht2
            simp only [Option.map_some, Option.some.injEq] at ht2
            subst ht2
            have hnp : ¬ p <+: e.2.1 := fun hp => (pw1 e he').1 ⟨heq.symm, hp⟩
            obtain ⟨v1, v2⟩ := hdr_set_ne w' _ hnp hat2
            rw [v2]
            exact hH e (List.mem_cons_of_mem _ he') t' (by rw [heq]; exact ht') v1
          · exact hH e (List.mem_cons_of_mem _ he') t2 ht2 hat2
        have hFr1 : ∀ e ∈ back, ∀ t, hc (0, e.2.2.1) = some t → ∀ b ∈ gq.fp (0, e.2.2.1), Free nobx (hput hi id p (.l true s rows)) g1 b := by
          intro e he' t2 ht2 b hb
          refine e4 b (hFr e (List.mem_cons_of_mem _ he') t2 ht2 b hb) fun hm => ?_
          have h1 := (c3 b hm).1
          have h2 := ((G.cr _ t2 ht2 (tbk e he').1).2.2 b hb).1
          rw [h1] at h2
          injection h2 with h2
          injection h2 with h2
          injection h2 with _ h2
          exact (pw1 e he').2 h2
        obtain ⟨g0, J1, J2, J3, J4, J5⟩ := giveBack_spec G I1 pw2 tK tbk hH1 R1 hFr1 he
        exact ⟨g0, J1, J2, J3.trans e2, fun b hb hap => J4 b (e4 b hb (hap k _ hck)) hap, fun b hap => (J5 b hap).trans (e5 b (hap k _ hck))⟩
      · cases he
    · exact giveBack_spec G I pw2 tK tbk (fun e he => hH e (List.mem_cons_of_mem _ he)) R (fun e he => hFr e (List.mem_cons_of_mem _ he)) he
    · cases he

theorem backB_spec {bb : Nat → Nat} {d : Nat} (h0 : d ≠ 0) : ∀ {bs : List (List T)} {ids : List Id} {jj k : Nat} {hi h1 : Heap} {gi : Gh} {bxi bx1 : BX} {B : List Nat}, Sm w0 F Lb w' ⟨σ, nobx, hi⟩ tmps gi → BoxR w' F bb k bs B → B.Nodup → (∀ b ∈ B, Free nobx hi gi b ∧ (w0.heap.size ≤ b ∨ Lb b)) →
    ids.Nodup → backB d jj hi bxi ids bs = some (h1, bx1) →
    ∃ g1, Gvn w0 F Lb w' σ nobx tmps hi gi h1 g1 B ∧ (∀ id, id ∉ ids → bx1 id = bxi id) ∧ bs.length = ids.length ∧
      ∀ j id, ids[j]? = some id → ∃ ss arr el, bx1 id = some ss ∧ w'.heap[bb (k + j)]? = some (.cells arr el (0, 0)) ∧ (∀ x ∈ arr.toList, oc x = true) ∧ SRL w' F nobx h1 g1 ss arr.toList
  | [], [], jj, k, hi, h1, gi, bxi, bx1, B, S, hB, _, _, _, he => by
    simp only [backB, Option.some.injEq, Prod.mk.injEq] at he
    obtain ⟨rfl, rfl⟩ := he
    obtain rfl : B = [] := hB
    exact ⟨gi, .none S, fun _ _ => rfl, rfl, fun j id hj => by simp at hj⟩
  | ts :: bs, id :: ids, jj, k, hi, h1, gi, bxi, bx1, B, S, hB, hn, hf, hnd, he => by
    simp only [backB] at he
    split at he
    · rename_i ss h2 h2e
      obtain ⟨B1, B2, arr, el, rfl, ha, hcr, hrest⟩ := hB
      obtain ⟨n1, n2, n3⟩ := List.nodup_append.1 hn
      obtain ⟨d1, d2⟩ := List.nodup_cons.1 hnd
      obtain ⟨g2, s2, G2⟩ := Sm.giveL h0 S hcr n1 (fun b hb => hf b (by simp [hb])) h2e
      obtain ⟨g3, G3, q1, q2, q3⟩ := backB_spec h0 G2.sm hrest n2 (fun b hb => ⟨G2.keep b (hf b (by simp [hb])).1 (fun h => n3 b h b hb rfl), (hf b (by simp [hb])).2⟩) d2 he
      refine ⟨g3, G2.trans G3, fun id' hid => ?_, by simp [q2], fun j id' hj => ?_⟩
      · rw [q1 id' (fun h => hid (List.mem_cons_of_mem _ h))]
        have hne : id' ≠ id := fun e => hid (by rw [e]; exact List.mem_cons_self)
        simp only [hne, if_false]
      · cases j with
        | zero =>
          simp only [List.getElem?_cons_zero, Option.some.injEq] at hj
          subst hj
          refine ⟨ss, arr, el, ?_, ha, hcr.oc, SRL.ext G3.ext (keepsL_true _) s2⟩
          rw [q1 id d1]
          simp
        | succ j =>
          simp only [List.getElem?_cons_succ] at hj
          have := q3 j id' hj
          rw [Nat.add_assoc, Nat.add_comm 1 j] at this
          exact this
    · cases he
  | [], _ :: _, _, _, _, _, _, _, _, _, _, _, _, _, _, he => by simp [backB] at he
  | _ :: _, [], _, _, _, _, _, _, _, _, _, _, _, _, _, he => by simp [backB] at he

/-! ### What a lending kills -/
mutual
theorem keeps_mono {K K' : Id → Path → Prop} (hK : ∀ id q, K id q → K' id q) : ∀ {s : SV}, s.keeps K → s.keeps K'
  | .u, _ | .c _, _ | .b .., _ | .q .., _ => by simp [SV.keeps]
  | .r .., hs | .p .., hs => by simp only [SV.keeps] at hs ⊢; exact hK _ _ hs
  | .a cs, hs => by simp only [SV.keeps] at hs ⊢; exact keepsL_mono hK hs
  | .t cs, hs => by simp only [SV.keeps] at hs ⊢; exact keepsL_mono hK hs
theorem keepsL_mono {K K' : Id → Path → Prop} (hK : ∀ id q, K id q → K' id q) : ∀ {ss : List SV}, keepsL K ss → keepsL K' ss
  | [], _ => trivial
  | _ :: _, hs => ⟨keeps_mono hK hs.1, keepsL_mono hK hs.2⟩
end
mutual
theorem keeps_killed {K : Id → Path → Prop} (id : Id) (p : Path) : ∀ {s : SV}, s.keeps K → (s.kill id p).keeps fun id' q => K id' q ∧ (id' = id → q <+: p)
  | .u, _ | .c _, _ | .b .., _ | .q .., _ => by simp [SV.kill, SV.keeps]
  | .r id' q _ lo n, hs => by
    simp only [SV.kill]
    split
    · simp [SV.keeps]
    · rename_i hk
      simp only [SV.keeps] at hs ⊢
      exact ⟨hs, fun he => by simp [killed, he] at hk; exact hk⟩
  | .p id' q _ lo n, hs => by
    simp only [SV.kill]
    split
    · simp [SV.keeps]
    · rename_i hk
      simp only [SV.keeps] at hs ⊢
      exact ⟨hs, fun he => by simp [killed, he] at hk; exact hk⟩
  | .a cs, hs => by simp only [SV.kill, SV.keeps] at hs ⊢; exact keepsL_killed id p hs
  | .t cs, hs => by simp only [SV.kill, SV.keeps] at hs ⊢; exact keepsL_killed id p hs
theorem keepsL_killed {K : Id → Path → Prop} (id : Id) (p : Path) : ∀ {ss : List SV}, keepsL K ss → keepsL (fun id' q => K id' q ∧ (id' = id → q <+: p)) (killL id p ss)
  | [], _ => trivial
  | _ :: _, hs => ⟨keeps_killed id p hs.1, keepsL_killed id p hs.2⟩
end
def KB (back : List (Id × Path × Nat × Nat)) : Id → Path → Prop := fun id q => ∀ e ∈ back, id = e.1 → q <+: e.2.1
theorem keeps_killAll : ∀ (back : List (Id × Path × Nat × Nat)) {K : Id → Path → Prop} {s : SV}, s.keeps K → (s.killAll back).keeps fun id q => K id q ∧ KB back id q
  | [], K, s, hs => keeps_mono (fun id q hk => ⟨hk, by simp [KB]⟩) hs
  | e :: back, K, s, hs => by
    have := keeps_killAll back (keeps_killed e.1 e.2.1 hs)
    refine keeps_mono (fun id q hk => ⟨hk.1.1, fun e' he' hid => ?_⟩) this
    rcases List.mem_cons.1 he' with rfl | he'
    · exact hk.1.2 hid
    · exact hk.2 e' he' hid
theorem keepsL_killAll : ∀ (back : List (Id × Path × Nat × Nat)) {K : Id → Path → Prop} {ss : List SV}, keepsL K ss → keepsL (fun id q => K id q ∧ KB back id q) (killAllL back ss)
  | [], K, s, hs => keepsL_mono (fun id q hk => ⟨hk, by simp [KB]⟩) hs
  | e :: back, K, s, hs => by
    have := keepsL_killAll back (keepsL_killed e.1 e.2.1 hs)
    refine keepsL_mono (fun id q hk => ⟨hk.1.1, fun e' he' hid => ?_⟩) this
    rcases List.mem_cons.1 he' with rfl | he'
    · exact hk.1.2 hid
    · exact hk.2 e' he' hid
theorem SR.killAll : ∀ (back : List (Id × Path × Nat × Nat)) {s : SV} {v : Value}, SR w F bx h g s v → SR w F bx h g (s.killAll back) v
  | [], _, _, hs => hs
  | e :: back, _, _, hs => SR.killAll back (SR.kill e.1 e.2.1 hs)
theorem SRL.killAll : ∀ (back : List (Id × Path × Nat × Nat)) {ss : List SV} {vs : List Value}, SRL w F bx h g ss vs → SRL w F bx h g (killAllL back ss) vs
  | [], _, _, hs => hs
  | e :: back, _, _, hs => SRL.killAll back (SRL.kill e.1 e.2.1 hs)

/-- The caller's lists, in the world behind the call. -/
theorem LS.after {L : Lend} {gL gc gq : Gh} {Bl : List Nat} {hc : Heap} (S : LS w0 F Lb w σ bx tmps h g L gL gc Lc Bl) (I0 : Inv w0 F Lb w bx h g) (I' : Inv w F Lc w' bx' hc gq) :
    Inv w0 F Lb w' nobx L.h gL ∧ (∀ id t, L.h id = some t → ∀ b ∈ gL.fp id, w'.heap[b]? = w.heap[b]?) ∧ (∀ b, Lc b → w0.heap.size ≤ b ∨ Lb b) ∧ ∀ b, Lc b → Free nobx L.h gL b := by
  have IL := S.mv.sm.inv
  have hF : ∀ (a : Addr) x, F a.block → w.cell? a = some x → w'.cell? a = some x := fun a x hF hx => by
    obtain ⟨h1, h2⟩ := I'.FB _ hF
    rw [cell_same (I'.fr _ h1 h2)]; exact hx
  have hfree : ∀ b, Lc b → Free nobx L.h gL b := by
    intro b hb
    rcases (S.lb b).1 hb with hb | ⟨id, hid, rfl⟩
    · exact ⟨(S.mv.fr b hb).1.1, fun _ _ h => by cases h⟩
    · obtain ⟨cs, hcs⟩ := S.not_box hid
      refine ⟨fun id' t' ht' hm => ?_, fun _ _ h => by cases h⟩
      have h1 := (IL.ls id' t' ht').2.2 _ hm
      rw [S.mv.same.2.2, (I0.bs id cs hcs).1] at h1
      cases h1
  have hown : ∀ b, Lc b → w0.heap.size ≤ b ∨ Lb b := by
    intro b hb
    rcases (S.lb b).1 hb with hb | ⟨id, hid, rfl⟩
    · exact (S.mv.fr b hb).2
    · obtain ⟨cs, hcs⟩ := S.not_box hid
      exact I0.ow _ (by rw [(I0.bs id cs hcs).1]; simp)
  have hsame : ∀ id t, L.h id = some t → ∀ b ∈ gL.fp id, w'.heap[b]? = w.heap[b]? := by
    intro id t ht b hb
    refine I'.fr b ((IL.ls id t ht).1.lt b hb) fun hl => ?_
    exact (hfree b hl).1 id t ht hb
  refine ⟨⟨IL.FB, fun id t ht => ?_, fun id cs hcs => (by cases hcs), IL.ow, fun b hb hnl => ?_, Nat.le_trans IL.sz I'.sz, ⟨I'.os.1.trans IL.os.1, I'.os.2.trans IL.os.2⟩, IL.pin⟩, hsame, hown, hfree⟩
  · obtain ⟨h1, h2, h3⟩ := IL.ls id t ht
    exact ⟨h1.frame (hsame id t ht) hF (fun _ h => h), h2, h3⟩
  · rw [I'.fr b (Nat.lt_of_lt_of_le hb IL.sz) (fun hl => ?_)]
    · exact IL.fr b hb hnl
    · rcases hown b hl with h1 | h1
      · omega
      · exact hnl h1
end
end AM

namespace AM
open Go

section
variable {P : Program} {w0 w w' : World} {F F' : FS} {Lb Lc : Lent} {bx bx' : BX} {h h' : Heap} {g g' : Gh} {σ : Nat → SV} {tmps : Array Value} {a : Act} {o : Go.Oper}
variable {call : Call} {H : Hint} {draw : Bool} {ops : List Go.Oper} {i d : Nat} {op : Op} {sv : SV}

theorem Ext.weak {K : Id → Path → Prop} {w1 w2 : World} {b1 b2 : BX} {h1 h2 : Heap} {g1 g2 : Gh} (E : Ext F (fun _ _ => True) w1 b1 h1 g1 w2 b2 h2 g2) : Ext F K w1 b1 h1 g1 w2 b2 h2 g2 := ⟨E.F, fun id t p ht _ => E.l id t p ht trivial, E.b⟩
theorem Ext.unbx {K : Id → Path → Prop} {w1 w2 : World} {b2 b3 : BX} {h1 h2 : Heap} {g1 g2 : Gh} (E : Ext F K w1 nobx h1 g1 w2 b2 h2 g2) : Ext F K w1 nobx h1 g1 w2 b3 h2 g2 := ⟨E.F, E.l, fun _ _ hc => by cases hc⟩

/-- The caller's state when what it lent is back. -/
theorem lend_back {L : Lend} {gL gc gq : Gh} {Bl B1 B2 : List Nat} {hc hb h1 h2 : Heap} {vs : List V} {bs : List (List T)} {l : List Value} {bx1 : BX} {ss : List SV} (hd0 : d ≠ 0) (S : Sm w0 F Lb w ⟨σ, bx, h⟩ tmps g) (Z : LS w0 F Lb w σ bx tmps h g L gL gc Lc Bl) (hk1 : L.k ≤ LCAN) (hk2 : L.bs.length ≤ LCAN)
    (I' : Inv w F Lc w' bx' hc gq) (hvs : VRL w' F vs l B1) (hbs : BoxR w' F Lc.bb 0 bs B2) (hnd : (B1 ++ B2).Nodup) (hfr : ∀ b ∈ B1 ++ B2, Free bx' hc gq b ∧ (w.heap.size ≤ b ∨ Lc b)) (hbx : ∀ j, j < bs.length → ∃ cs, bx' (0, j) = some cs)
    (e1 : giveBack hc L.back L.h = some hb) (e2 : backB d 1000 hb (fun j => (bx j).map (killAllL L.back)) L.bback bs = some (h1, bx1)) (e3 : giveVs h1 d 0 vs = some (ss, h2)) :
    ∃ gF, Sm w0 F Lb w' ⟨fun j => (σ j).killAll L.back, bx1, h2⟩ tmps gF ∧ SRL w' F bx1 h2 gF ss l := by
  have I0 := S.inv
  obtain ⟨J, hsame, hown, hLfree⟩ := Z.after I0 I'
  have hF : ∀ (a : Addr) x, F a.block → w.cell? a = some x → w'.cell? a = some x := fun a x hF hx => by
    obtain ⟨h1, h2⟩ := I'.FB _ hF
    rw [cell_same (I'.fr _ h1 h2)]; exact hx
  have hnewF : ∀ b, w.heap.size ≤ b → Free nobx L.h gL b := fun b hb => ⟨fun id t ht hm => by
    have := (Z.mv.sm.inv.ls id t ht).1.lt b hm
    omega, fun _ _ h => by cases h⟩
  have hqF : ∀ b, (w.heap.size ≤ b ∨ Lc b) → Free nobx L.h gL b ∧ (w0.heap.size ≤ b ∨ Lb b) := fun b hb => by
    rcases hb with hb | hb
    · exact ⟨hnewF b hb, .inl (Nat.le_trans I0.sz hb)⟩
    · exact ⟨hLfree b hb, hown b hb⟩
  have G : Got w0 F Lb Lc w' hc gq := ⟨fun k t ht hk => by
    obtain ⟨c1, c2, c3⟩ := I'.ls _ t ht
    rw [I'.pin.1 k hk] at c1
    exact ⟨c1, c2, fun b hb => ⟨c3 b hb, (hqF b (I'.ow b (by rw [c3 b hb]; simp))).2⟩⟩⟩
  have hR : Rel (KB L.back) w h g w' L.h gL := by
    intro id t q ht _
    obtain ⟨t', ht', hr⟩ := Z.mv.ext.l id t q ht trivial
    refine ⟨t', ht', fun sz rows' hat => ?_⟩
    obtain ⟨rows, u1, u2, u3⟩ := hr sz rows' hat
    refine ⟨rows, u1, u2, ?_⟩
    rw [← u3]
    exact hdr_frame (Z.mv.sm.inv.ls id t' ht').1 hat (hsame id t' ht') hF
  obtain ⟨gB, IB, RB, bbB, frB, owB⟩ := giveBack_spec G J Z.pw (fun e he q hq => hq e he rfl) (fun e he => ⟨Nat.lt_of_lt_of_le (Z.bk e he).1 hk1, (Z.bk e he).2⟩)
    (fun e he t' ht' hat' => by
      obtain ⟨_, t, rows, a, cap, u1, u2, u3, u4⟩ := Z.bk e he
      obtain ⟨t0, x', v1, _, v3⟩ := Z.hh e.1 t' e.2.1 _ ht' hat'
      rw [u1] at v1
      obtain rfl := Option.some.inj v1
      rw [hdr_frame (Z.mv.sm.inv.ls e.1 t' ht').1 hat' (hsame e.1 t' ht') hF, v3, Z.mv.same.1, u3, u4]) hR
    (fun e he t ht b hb => (hqF b (I'.ow b (by rw [(I'.ls _ t ht).2.2 b hb]; simp))).1) e1
  have hap : ∀ b ∈ B1 ++ B2, Apart hc gq b := fun b hb k t ht hm => (hfr b hb).1.1 _ t ht hm
  have SB : Sm w0 F Lb w' ⟨fun _ => .u, nobx, hb⟩ tmps gB := ⟨IB, fun x => by simp [SR]⟩
  obtain ⟨n1, n2, n3⟩ := List.nodup_append.1 hnd
  have hBF : ∀ b ∈ B1 ++ B2, Free nobx hb gB b ∧ (w0.heap.size ≤ b ∨ Lb b) := fun b hb => ⟨frB b (hqF b (hfr b hb).2).1 (hap b hb), (hqF b (hfr b hb).2).2⟩
  obtain ⟨g1, G1, q1, q2, q3⟩ := backB_spec hd0 SB hbs n2 (fun b hb => hBF b (by simp [hb])) Z.bb.1 e2
  obtain ⟨gF, sF, GF⟩ := Sm.giveVs hd0 G1.sm hvs n1 (fun b hb => ⟨G1.keep b (hBF b (by simp [hb])).1 (fun h => n3 b hb b h rfl), (hBF b (by simp [hb])).2⟩) e3
  have hbbF : gF.bb = g.bb := GF.bb.trans (G1.bb.trans (bbB.trans Z.mv.same.2.1))
  have howF : ∀ b, b ∉ B1 ++ B2 → Apart hc gq b → gF.ow b = g.ow b := fun b hb hp => by
    rw [GF.ow b (fun h => hb (by simp [h])), G1.ow b (fun h => hb (by simp [h])), owB b hp, Z.mv.same.2.2]
  have EF0 : Ext F (KB L.back) w nobx h g w' nobx hb gB := ⟨hF, RB, fun _ _ hc => by cases hc⟩
  have EF1 : Ext F (KB L.back) w nobx h g w' nobx h2 gF := (EF0.trans G1.ext.weak).trans GF.ext.weak
  have hbxin : ∀ id, id ∈ L.bback → ∃ j, L.bback[j]? = some id ∧ j < bs.length := fun id hid => by
    obtain ⟨j, hj, rfl⟩ := List.getElem_of_mem hid
    exact ⟨j, List.getElem?_eq_getElem hj, by rw [q2]; exact hj⟩
  have EF : Ext F (KB L.back) w bx h g w' bx1 h2 gF := by
    refine ⟨EF1.F, EF1.l, fun id cs hc => ⟨?_, by rw [hbbF]⟩⟩
    by_cases hid : id ∈ L.bback
    · obtain ⟨j, hj, _⟩ := hbxin id hid
      obtain ⟨ss, _, _, u1, _⟩ := q3 j id hj
      exact ⟨ss, u1⟩
    · rw [q1 id hid, hc]
      exact ⟨_, rfl⟩
  have IF := GF.sm.inv
  refine ⟨gF, ⟨⟨IF.FB, IF.ls, fun id cs hcs => ?_, IF.ow, IF.fr, IF.sz, IF.os, IF.pin⟩, fun x => ?_⟩, ?_⟩
  · show gF.ow (gF.bb id) = _ ∧ _
    by_cases hid : id ∈ L.bback
    · obtain ⟨j, hj, hjl⟩ := hbxin id hid
      obtain ⟨ss', arr, el, u1, u2, u3, u4⟩ := q3 j id hj
      have hcs' : bx1 id = some cs := hcs
      rw [u1] at hcs'
      obtain rfl := Option.some.inj hcs'
      obtain ⟨⟨cs0, hcs0⟩, hLb⟩ := Z.bb.2.2 j id hj
      rw [Nat.zero_add, hLb] at u2
      obtain ⟨csq, hcsq⟩ := hbx j hjl
      have hjC : j < CAN := Nat.lt_of_lt_of_le (by rw [← Z.bb.2.1, ← q2]; exact hjl) hk2
      have hbq : gq.bb (0, j) = g.bb id := by rw [I'.pin.2 j hjC, hLb]
      have howq := (I'.bs _ csq hcsq).1
      rw [hbq] at howq
      rw [hbbF, howF _ (fun hm => (hfr _ hm).1.2 _ csq hcsq hbq) (fun k t ht hm => by rw [(I'.ls _ t ht).2.2 _ hm] at howq; cases howq)]
      refine ⟨(I0.bs id cs0 hcs0).1, arr, el, u2, u3, SRL.ext (GF.ext.unbx) (keepsL_true _) u4⟩
    · have hcs' : bx1 id = some cs := hcs
      rw [q1 id hid] at hcs'
      obtain ⟨cs0, hcs0, rfl⟩ := Option.map_eq_some_iff.1 hcs'
      obtain ⟨k1, arr, el, k2, k3, k4⟩ := I0.bs id cs0 hcs0
      have hlt := heap_lt k2
      have hnl : ¬ Lc (g.bb id) := fun hl => by
        rcases (Z.lb _).1 hl with h3 | ⟨id2, hid2, h3⟩
        · exact (Z.mv.fr _ h3).1.2 id cs0 hcs0 (by rw [Z.mv.same.2.1])
        · obtain ⟨cs2, hcs2⟩ := Z.not_box hid2
          have := (I0.bs id2 cs2 hcs2).1
          rw [← h3, k1] at this
          injection this with this
          injection this with this
          exact hid (this ▸ hid2)
      have hnq : gq.ow (g.bb id) = none := Classical.byContradiction fun hne => by
        rcases I'.ow _ hne with h3 | h3
        · omega
        · exact hnl h3
      rw [hbbF, howF _ (fun hm => by
        rcases (hfr _ hm).2 with h3 | h3
        · omega
        · exact hnl h3) (fun k t ht hm => by rw [(I'.ls _ t ht).2.2 _ hm] at hnq; cases hnq)]
      refine ⟨k1, arr, el, by rw [I'.fr _ hlt hnl]; exact k2, k3, SRL.ext EF (keepsL_mono (fun _ _ hk => hk.2) (keepsL_killAll L.back (keepsL_true cs0))) (SRL.killAll L.back k4)⟩
  · exact SR.ext EF (keeps_mono (fun _ _ hk => hk.2) (keeps_killAll L.back (keeps_true (σ x)))) (SR.killAll L.back (S.sl x))
  · have E0 : Ext F (fun _ _ => True) w' nobx h2 gF w' bx1 h2 gF := (Ext.refl w' F _ nobx h2 gF).unbx
    exact SRL.ext E0 (keepsL_true _) sF

/-- A call that is lent what it is handed. -/
theorem lend_wp {s s' : St} {gd : Option (Nat × Bool)} {f n : Nat} {as : List Opd} (hG : Good P call) (hC : opC P H draw ops i o = some (.calll f n as)) (hb : ∀ d, o.dst = some d → d < a.tmps.size) (he : exec call ⟨o.dst, gd, .calll f n as⟩ s = some s') (S : Sm w0 F Lb w s a.tmps g) (Q : Exit → Act → World → Prop) :
    o.wp P a w (Went w0 F Lb a o.dst s') Q := by
  obtain ⟨σ, bx, h⟩ := s
  obtain ⟨f', args, ats, fn, as', dd, ho, hf, hd, hbody, hsz, hpar, has, hop⟩ := opC_call hC rfl
  have hop' : f = f' ∧ n = fn.results.size ∧ as = as' := by
    rcases hop with h | h | h | h
    · cases h
    · cases h
    · cases h
    · injection h with h1 h2 h3; exact ⟨h1, h2, h3⟩
  obtain ⟨rfl, rfl, rfl⟩ := hop'
  have hargs : SRL w F bx h g (as.map (·.ev σ)) (args.map a.eval).toList := by
    rw [Array.toList_map]
    exact args_spec S (by simpa using hsz) has
  have hlt := hb dd hd
  simp only [exec, hd] at he
  unfold evLend at he
  split at he
  · rename_i as2 L hL
    split at he
    · rename_i vs hc bs hcall
      split at he
      · rename_i hcond
        obtain ⟨hn, hov, hob, hk1, hk2⟩ := hcond
        split at he
        · rename_i hbk e1
          split at he
          · rename_i h1 bx2 e2
            split at he
            · rename_i ss h2 e3
              obtain rfl := Option.some.inj he
              obtain ⟨gc0, Z0⟩ := LS.start S
              obtain ⟨gL, gc, Lc, Bl, Z, hs2⟩ := Z0.lendAs S.inv hargs hL
              unfold Oper.wp
              rw [call_run ho hf hbody w, Oper.upon_enter]
              refine (hG f as2 L.hc L.bs vs hc bs hcall hk2 w F Lc gc (args.map a.eval) Z.ls.ci hs2).mono ?_
              intro e w' hR
              cases e with
              | panicked _ => exact hR.elim
              | outgrown => exact hR.elim
              | returned v =>
                obtain ⟨gq, bx', B1, B2, I', hvs, hbs, hnd, hfr, hbx⟩ := hR
                obtain ⟨l, hl, hv⟩ := hvs.list
                obtain ⟨gF, SF, hss⟩ := lend_back (Nat.succ_ne_zero dd) S Z.ls hk1 hk2 I' hl hbs hnd hfr hbx e1 e2 e3
                refine ⟨⟨v, rfl⟩, gF, ?_⟩
                rw [hd]
                exact SF.put hlt (slot_of hss hv)
            · cases he
          · cases he
        · cases he
      · cases he
    · cases he
  · cases he

/-- All operations. -/
theorem execOk_of (hG : Good P call) : ExecOk P call := by
  intro w0 F Lb w g a o H draw ops i op gd s s' hC hb he S Q
  by_cases hn : op.isCall = true
  · by_cases hl : ∃ f n as, op = .calll f n as
    · obtain ⟨f, n, as, rfl⟩ := hl
      exact lend_wp hG hC hb he S Q
    · exact call_wp hG hC hn (fun f n as e => hl ⟨f, n, as, e⟩) hb he S Q
  · exact exec_wp hC (by simpa using hn) hb he S Q
end
end AM

namespace AM
open Go Go.ChangeShapes Go.WideShapes Go.ChangeAt Go.RowKit

/-! ### Calls -/
theorem good_all {P : Program} {Γ : Nat → Option AF} (hΓ : Comps P Γ) (hm : P.follows .mixedOrders = true) : ∀ k, Good P (callF Γ k)
  | 0 => fun f args hc bs vs hc' bs' h => by simp [callF] at h
  | k + 1 => call_step hΓ (execOk_of (good_all hΓ hm k)) hm

/-- What is left behind a law. -/
structure Kept (w w' : World) : Prop where
  heap : ∀ b, b < w.heap.size → w'.heap[b]? = w.heap[b]?
  os : w'.os = w.os ∧ w'.output = w.output
def old (w : World) : FS := fun b => b < w.heap.size

theorem law_calls {P : Program} {Γ : Nat → Option AF} (hΓ : Comps P Γ) (hm : P.follows .mixedOrders = true) {f : Nat} {args : List SV} {hc' : Heap} {bs' : List (List T)} {t : Value}
    (hden : den Γ f args (fun _ => none) [] = some ([.o (.v t)], hc', bs')) {w : World} {vals : Array Value} (hs : SRL w (old w) (bx0 []) (fun _ => none) gh0 args vals.toList) :
    Calls P f vals w fun e w' => e = .returned t ∧ Kept w w' := by
  obtain ⟨k, hk⟩ := den_some.1 hden
  refine (good_all hΓ hm k f args _ [] _ _ _ hk (Nat.zero_le _) w (old w) noLent gh0 vals (Inv.enter fun b hb => hb) hs).mono ?_
  intro e w' hR
  cases e with
  | panicked _ => exact hR.elim
  | outgrown => exact hR.elim
  | returned v =>
    obtain ⟨g', bx', B1, B2, I, hvs, _⟩ := hR
    have hv : v = t := by
      rcases hvs with ⟨x, hx, hv⟩ | ⟨hn, _⟩
      · simp only [List.cons.injEq, and_true] at hx
        subst hx
        have hv' : CR w' _ [.v t] [v] B1 := hv
        cases hv' with
        | v _ _ _ => rfl
      · exact absurd rfl hn
    subst hv
    exact ⟨rfl, fun b hb => I.fr b hb (fun h => h), I.os⟩

section
variable {H : Type} {enc : TypeId × Value → H} {P : Program} {W W' : World}
theorem trodAll_kept (hk : Kept W W') {base : Nat} {sp : Nat → Bool} {held : Bool} : ∀ {ts : List TypeId} {vs : List Value} {ds : List (DataW H)} {ps : List MemPlace}, DataW.TrodAll enc P W base sp held ts vs ds ps → (∀ p ∈ ps, p.block < W.heap.size) → DataW.TrodAll enc P W' base sp held ts vs ds ps
  | [], [], [], _, h, _ => h
  | _ :: _, _ :: _, _ :: _, _, ⟨p, q, ⟨n, h1⟩, h2, e⟩, hl => by
    refine ⟨p, q, ⟨n, DataW.trod_carry n _ _ _ h1 fun x hx => ?_⟩, trodAll_kept hk h2 (fun x hx => hl x (by rw [e]; simp [hx])), e⟩
    have hb := hl x (by rw [e]; simp [show x ∈ p from hx])
    cases x with
    | cell b off =>
      unfold World.sameAt
      simp only
      unfold World.cell?
      rw [hk.heap b hb]
    | map b => exact hk.heap b hb
theorem law_post {f : Func} {s : ChangeSpec} {args : Array Value} {ds gs : List (DataW H)} {before : List MemPlace} {tb : TypeId}
    (hW : DataW.Whole enc P f.params.toList s.vars false W args.toList ds gs before) (hvars : s.vars = []) (hfn : s.fn H (ds ++ gs) = { results := [.lit (.bool true)], args := ds })
    (hrt : f.resultTypes = #[tb]) (htb : P.underlying tb = some .bool) (K : Kids P (· < P.types.size)) (full : ∀ t e, t < P.types.size → P.underlying t = some (.slice e) → 0 < P.cellsOf e) (hts : ∀ t ∈ f.params.toList, t < P.types.size) (hk : Kept W W') :
    s.post enc P f false true false false W args (.bool true) W' := by
  have hlt := hW.lt
  have hW' := hW
  obtain ⟨p, q, hA, hV, rfl, hfz, _⟩ := hW
  rw [hvars] at hV
  obtain ⟨rfl, rfl⟩ := trodVars_none hV
  refine ⟨ds, [], _, [], p, [], hW', ?_, ?_, ?_, ?_, fun h => by cases h⟩
  · rw [hfn, hrt]
    exact trodAll_cons_mk (shut_bool htb _) trodAll_mk0
  · rw [hfn]
    exact DataW.TrodAll.respare K full hts (trodAll_kept hk hA fun x hx => hlt x (by simp [hx])) fun x hx => by simpa using hlt x (by simp [hx])
  · rw [hfn, hvars]; rfl
  · refine ⟨hk.os.1, hk.os.2, fun i hi => ?_⟩
    rw [hk.heap i hi]
    have hq := Array.getElem?_eq_getElem hi
    rw [hq]
    cases W.heap[i] <;> simp
end
end AM

namespace AM
open Go

/-! ### Weakest preconditions of AM's code -/
def wp (Γ : Nat → Option AF) (nb : Nat) (c : AC) (s : St) (Q : X → St → Prop) : Prop := ∃ x s', drun (den Γ) nb c s = some (x, s') ∧ Q x s'
def wpR (Γ : Nat → Option AF) (os : List Oper) (s : St) (K : St → Prop) : Prop := ∃ s', runOps (den Γ) os s = some s' ∧ K s'
/-- A call's results. -/
noncomputable def ret (Γ : Nat → Option AF) (f : Nat) (as : List SV) : Option (List V) := (den Γ f as (fun _ => none) []).map (·.1)
noncomputable def iwp (Γ : Nat → Option AF) (nb : Nat) (b : AC) (live : List Nat) (s : St) (Q : X → St → Prop) : Prop := ∃ x s', iterL nb (drun (den Γ) nb b) live s = some (x, s') ∧ Q x s'

section
variable {Γ : Nat → Option AF} {nb : Nat} {Q : X → St → Prop} {K : St → Prop} {σ : Nat → SV} {bx : BX} {h : Heap} {os : List Oper} {s : St}

theorem wp_skip : wp Γ nb .skip s Q ↔ Q .n s := ⟨fun ⟨_, _, h1, h2⟩ => by cases h1; exact h2, fun h => ⟨_, _, rfl, h⟩⟩
theorem wp_exit {id : Nat} : wp Γ nb (.exit id) s Q ↔ Q (.e id) s := ⟨fun ⟨_, _, h1, h2⟩ => by cases h1; exact h2, fun h => ⟨_, _, rfl, h⟩⟩
theorem wp_ret : wp Γ nb .ret s Q ↔ Q .r s := ⟨fun ⟨_, _, h1, h2⟩ => by cases h1; exact h2, fun h => ⟨_, _, rfl, h⟩⟩
def seqQ (Γ : Nat → Option AF) (nb : Nat) (b : AC) (Q : X → St → Prop) : X → St → Prop
  | .n, s => wp Γ nb b s Q
  | .e j, s => Q (.e j) s
  | .r, s => Q .r s
theorem seqQ_n {b : AC} : seqQ Γ nb b Q .n s = wp Γ nb b s Q := rfl
theorem seqQ_e {b : AC} {j : Nat} : seqQ Γ nb b Q (.e j) s = Q (.e j) s := rfl
theorem seqQ_r {b : AC} : seqQ Γ nb b Q .r s = Q .r s := rfl
theorem wp_seq {a b : AC} : wp Γ nb (.seq a b) s Q ↔ wp Γ nb a s (seqQ Γ nb b Q) := by
  unfold wp
  simp only [drun]
  constructor
  · rintro ⟨x, s', h1, h2⟩
    rcases e : drun (den Γ) nb a s with _ | ⟨y, s1⟩
    · simp [e] at h1
    · cases y with
      | n => simp only [e] at h1; exact ⟨.n, s1, rfl, x, s', h1, h2⟩
      | e j => simp only [e, Option.some.injEq, Prod.mk.injEq] at h1; obtain ⟨rfl, rfl⟩ := h1; exact ⟨_, _, rfl, h2⟩
      | r => simp only [e, Option.some.injEq, Prod.mk.injEq] at h1; obtain ⟨rfl, rfl⟩ := h1; exact ⟨_, _, rfl, h2⟩
  · rintro ⟨y, s1, h1, h2⟩
    rw [h1]
    cases y with
    | n => exact h2
    | e j => exact ⟨_, _, rfl, h2⟩
    | r => exact ⟨_, _, rfl, h2⟩
theorem wp_cond {c : Opd} {x y : AC} {b : Bool} (hc : c.ev s.σ = .c (.v (.bool b))) : wp Γ nb (.cond c x y) s Q ↔ if b = true then wp Γ nb x s Q else wp Γ nb y s Q := by
  unfold wp
  simp only [drun, hc]
  cases b <;> simp
def blkQ (id : Nat) (Q : X → St → Prop) : X → St → Prop
  | .e j, s => if j = id then Q .n s else Q (.e j) s
  | .n, s => Q .n s
  | .r, s => Q .r s
theorem blkQ_n {id : Nat} : blkQ id Q .n s = Q .n s := rfl
theorem blkQ_r {id : Nat} : blkQ id Q .r s = Q .r s := rfl
theorem blkQ_e {id j : Nat} : blkQ id Q (.e j) s = if j = id then Q .n s else Q (.e j) s := rfl
theorem wp_block {id : Nat} {b : AC} : wp Γ nb (.block id b) s Q ↔ wp Γ nb b s (blkQ id Q) := by
  unfold wp
  simp only [drun]
  constructor
  · rintro ⟨x, s', h1, h2⟩
    rcases e : drun (den Γ) nb b s with _ | ⟨y, s1⟩
    · simp [e] at h1
    · cases y with
      | n => simp only [e, Option.some.injEq, Prod.mk.injEq] at h1; obtain ⟨rfl, rfl⟩ := h1; exact ⟨_, _, rfl, h2⟩
      | e j =>
        refine ⟨_, _, rfl, ?_⟩
        simp only [e] at h1
        simp only [blkQ]
        split at h1
        · rename_i hj; simp only [Option.some.injEq, Prod.mk.injEq] at h1; obtain ⟨rfl, rfl⟩ := h1; rw [if_pos hj]; exact h2
        · rename_i hj; simp only [Option.some.injEq, Prod.mk.injEq] at h1; obtain ⟨rfl, rfl⟩ := h1; rw [if_neg hj]; exact h2
      | r => simp only [e, Option.some.injEq, Prod.mk.injEq] at h1; obtain ⟨rfl, rfl⟩ := h1; exact ⟨_, _, rfl, h2⟩
  · rintro ⟨y, s1, h1, h2⟩
    rw [h1]
    cases y with
    | n => exact ⟨_, _, rfl, h2⟩
    | e j =>
      simp only [blkQ] at h2
      by_cases hj : j = id
      · rw [if_pos hj] at h2; simp only [hj, if_true]; exact ⟨_, _, rfl, h2⟩
      · rw [if_neg hj] at h2; simp only [hj, if_false]; exact ⟨_, _, rfl, h2⟩
    | r => exact ⟨_, _, rfl, h2⟩
theorem wp_reg {d : Bool} : wp Γ nb (.reg d os) s Q ↔ wpR Γ os s (Q .n) := by
  unfold wp wpR
  simp only [drun]
  constructor
  · rintro ⟨x, s', h1, h2⟩
    split at h1
    · rename_i s1 hs1
      simp only [Option.some.injEq, Prod.mk.injEq] at h1
      obtain ⟨rfl, rfl⟩ := h1
      exact ⟨_, hs1, h2⟩
    · cases h1
  · rintro ⟨s1, h1, h2⟩
    rw [h1]
    exact ⟨_, _, rfl, h2⟩
theorem wp_loop {live : List Nat} {b : AC} : wp Γ nb (.loop live b) s Q ↔ iwp Γ nb b live s Q := by
  unfold wp iwp
  simp only [drun]
def loopQ (Γ : Nat → Option AF) (nb : Nat) (b : AC) (live : List Nat) (Q : X → St → Prop) : X → St → Prop
  | .n, s => iwp Γ nb b live s Q
  | .e j, s => Q (.e j) s
  | .r, s => Q .r s
theorem loopQ_e {b : AC} {j : Nat} {live : List Nat} : loopQ Γ nb b live Q (.e j) s = Q (.e j) s := rfl
theorem loopQ_r {b : AC} {live : List Nat} : loopQ Γ nb b live Q .r s = Q .r s := rfl
theorem loopQ_n {b : AC} {live : List Nat} : loopQ Γ nb b live Q .n s = iwp Γ nb b live s Q := rfl
theorem iwp_step {live : List Nat} {b : AC} : iwp Γ nb b live s Q ↔ wp Γ nb b (canon nb live s) (loopQ Γ nb b live Q) := by
  unfold iwp wp
  rw [iterL_eq]
  constructor
  · rintro ⟨x, s', h1, h2⟩
    rcases e : drun (den Γ) nb b (canon nb live s) with _ | ⟨y, s1⟩
    · simp [e] at h1
    · cases y with
      | n => simp only [e] at h1; exact ⟨.n, s1, rfl, x, s', h1, h2⟩
      | e j => simp only [e, Option.some.injEq, Prod.mk.injEq] at h1; obtain ⟨rfl, rfl⟩ := h1; exact ⟨_, _, rfl, h2⟩
      | r => simp only [e, Option.some.injEq, Prod.mk.injEq] at h1; obtain ⟨rfl, rfl⟩ := h1; exact ⟨_, _, rfl, h2⟩
  · rintro ⟨y, s1, h1, h2⟩
    rw [h1]
    cases y with
    | n => exact h2
    | e j => exact ⟨_, _, rfl, h2⟩
    | r => exact ⟨_, _, rfl, h2⟩
theorem wp_mono {c : AC} {Q' : X → St → Prop} (h : wp Γ nb c s Q) (hq : ∀ x s, Q x s → Q' x s) : wp Γ nb c s Q' := by
  obtain ⟨x, s', h1, h2⟩ := h
  exact ⟨x, s', h1, hq _ _ h2⟩

/-! ### One operation -/
theorem wpR_nil : wpR Γ [] s K ↔ K s := by simp [wpR, runOps]
/-- An operation that yields. -/
def yld (r : Option (SV × BX × Heap)) (K : SV → BX → Heap → Prop) : Prop := ∃ v b h, r = some (v, b, h) ∧ K v b h
theorem yld_some {v : SV} {b : BX} {hh : Heap} {K : SV → BX → Heap → Prop} : yld (some (v, b, hh)) K ↔ K v b hh := by
  unfold yld
  constructor
  · rintro ⟨_, _, _, e, hk⟩
    simp only [Option.some.injEq, Prod.mk.injEq] at e
    obtain ⟨rfl, rfl, rfl⟩ := e
    exact hk
  · exact fun hk => ⟨_, _, _, rfl, hk⟩
theorem wpR_cons {o : Oper} : wpR Γ (o :: os) s K ↔ ∃ s1, execG (den Γ) o s = some s1 ∧ wpR Γ os s1 K := by
  unfold wpR
  simp only [runOps]
  constructor
  · rintro ⟨s', h1, h2⟩
    split at h1
    · rename_i s1 hs1; exact ⟨s1, hs1, s', h1, h2⟩
    · cases h1
  · rintro ⟨s1, h1, s', h2, h3⟩
    rw [h1]
    exact ⟨s', h2, h3⟩
def isEv : Op → Bool
  | .store .. | .stb .. | .cpy .. | .calll .. => false
  | _ => true
theorem wpR_ev {d : Nat} {op : Op} (he : isEv op = true) : wpR Γ (⟨some d, none, op⟩ :: os) ⟨σ, bx, h⟩ K ↔ yld (evOp (den Γ) σ bx h d op) fun v b hh => wpR Γ os ⟨upd σ d v, b, hh⟩ K := by
  rw [wpR_cons]
  have e : execG (den Γ) ⟨some d, none, op⟩ ⟨σ, bx, h⟩ = match evOp (den Γ) σ bx h d op with | some (v, bx1, h1) => some ⟨upd σ d v, bx1, h1⟩ | none => none := by
    cases op <;> first | rfl | (simp [isEv] at he; done)
  rw [e]
  unfold yld
  constructor
  · rintro ⟨s1, h1, h2⟩
    split at h1
    · rename_i v b hh heq
      obtain rfl := Option.some.inj h1
      exact ⟨v, b, hh, heq, h2⟩
    · cases h1
  · rintro ⟨v, b, hh, h1, h2⟩
    rw [h1]
    exact ⟨_, rfl, h2⟩
theorem wpR_guard {d : Nat} {op : Op} {g : Nat} {b : Bool} {x : Value} (hg : σ g = .c (.v x)) : wpR Γ (⟨some d, some (g, b), op⟩ :: os) ⟨σ, bx, h⟩ K ↔ if x.isB b = true then wpR Γ (⟨some d, none, op⟩ :: os) ⟨σ, bx, h⟩ K else wpR Γ os ⟨upd σ d (.t []), bx, h⟩ K := by
  rw [wpR_cons, wpR_cons]
  simp only [execG, hg]
  split
  · rfl
  · constructor
    · rintro ⟨s1, h1, h2⟩; obtain rfl := Option.some.inj h1; exact h2
    · intro h; exact ⟨_, rfl, h⟩
theorem wpR_skip {d : Nat} {op : Op} {g : Nat} {b : Bool} (hg : σ g = .t []) : wpR Γ (⟨some d, some (g, b), op⟩ :: os) ⟨σ, bx, h⟩ K ↔ wpR Γ os ⟨upd σ d (.t []), bx, h⟩ K := by
  rw [wpR_cons]
  simp only [execG, hg]
  constructor
  · rintro ⟨s1, h1, h2⟩; obtain rfl := Option.some.inj h1; exact h2
  · intro h; exact ⟨_, rfl, h⟩
end
end AM
