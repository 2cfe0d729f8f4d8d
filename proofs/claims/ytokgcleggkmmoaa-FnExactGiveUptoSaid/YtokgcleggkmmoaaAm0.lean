/- The abstract machine AM, part 0. -/
import GoSem.Dispatch
import Derived.Calls
import GoSem.Core.View
import Derived.Laws.Sem
import Derived.Laws.Cells
import Derived.Laws.IdiomCopy
import Derived.Deep.MidRow
import Derived.Laws.Entries
import Derived.Laws.CopyRow
import Derived.Laws.MakeOwn
import Derived.Great.BuildSlice
import Derived.Deep.AppendSrc
import Derived.Deep.Upon
import Derived.Laws.StructEq
import Derived.Laws.BytesString
set_option linter.unusedVariables false
set_option linter.unusedSimpArgs false
/-! AM: trees, frames, code. -/
namespace AM
open Go

inductive T where
  | u
  | v (x : Value)
  | l (own : Bool) (sz : Nat) (rows : List (List T))
  deriving Inhabited

abbrev Id := Nat × Nat
abbrev Path := List (Nat × Nat)
abbrev Heap := Id → Option T

inductive SV where
  | u
  | c (t : T)
  | r (id : Id) (p : Path) (sz lo n : Nat)
  | p (id : Id) (p : Path) (sz i f : Nat)
  | b (id : Id) (f : Nat)
  | q (row : List T) (f : Nat)
  | a (cs : List SV)
  | t (vs : List SV)
  deriving Inhabited

/-- What crosses a call. -/
inductive V where
  | o (t : T)
  | a (ts : List T)
  deriving Inhabited

def T.at : T → Path → Option T
  | t, [] => some t
  | .l true _ rows, (i, f) :: p => match rows[i]? with
    | some row => match row[f]? with
      | some t => t.at p
      | none => none
    | none => none
  | _, _ :: _ => none

def T.set : T → Path → T → T
  | _, [], s => s
  | .l o sz rows, (i, f) :: p, s => .l o sz (rows.modify i fun row => row.modify f fun t => t.set p s)
  | t, _ :: _, _ => t

mutual
def T.fz : T → T
  | .u => .u
  | .v x => .v x
  | .l _ sz rows => .l false sz (fzLL rows)
def fzL : List T → List T
  | [] => []
  | t :: ts => t.fz :: fzL ts
def fzLL : List (List T) → List (List T)
  | [] => []
  | r :: rs => fzL r :: fzLL rs
end
mutual
/-- No owned list in it. -/
def T.imm : T → Bool
  | .u => true
  | .v _ => true
  | .l o _ rows => !o && immLL rows
def immL : List T → Bool
  | [] => true
  | t :: ts => t.imm && immL ts
def immLL : List (List T) → Bool
  | [] => true
  | r :: rs => immL r && immLL rs
end
mutual
/-- No list in it that is not owned. -/
def T.own : T → Bool
  | .u => true
  | .v _ => true
  | .l o _ rows => o && ownLL rows
def ownL : List T → Bool
  | [] => true
  | t :: ts => t.own && ownL ts
def ownLL : List (List T) → Bool
  | [] => true
  | r :: rs => ownL r && ownLL rs
end

def upd {α : Type} (f : Nat → α) (k : Nat) (x : α) : Nat → α := fun j => if j = k then x else f j
def hat (h : Heap) (id : Id) (p : Path) : Option T := (h id).bind (·.at p)
def hput (h : Heap) (id : Id) (p : Path) (t : T) : Heap := fun j => if j = id then (h id).map (·.set p t) else h j
def hnew (h : Heap) (id : Id) (t : T) : Heap := fun j => if j = id then some t else h j

inductive Opd where
  | t (n : Nat)
  | c (s : SV)
  deriving Inhabited
def Opd.ev (σ : Nat → SV) : Opd → SV
  | .t n => σ n
  | .c s => s

/-- How many elements a list may get by an operation. -/
def LIM : Nat := 1099511627776

/-- The rows that a slice shows. -/
def sview (h : Heap) : SV → Option (Nat × List (List T))
  | .c (.l _ sz rows) => some (sz, rows)
  | .r id p s lo n => match hat h id p with
    | some (.l true sz rows) => if lo + n ≤ rows.length ∧ s = sz then some (sz, (rows.drop lo).take n) else none
    | _ => none
  | _ => none
def slen : SV → Option Nat
  | .c (.l _ _ rows) => some rows.length
  | .r _ _ _ _ n => some n
  | _ => none

/-- A value is moved out of its slot. -/
def mv1 (h : Heap) : SV → Option (T × Heap)
  | .u => some (.u, h)
  | .c t => some (t, h)
  | .r id p s lo n => match hat h id p with
    | some (.l true sz rows) => if lo = 0 ∧ n ≤ rows.length ∧ s = sz then some (.l true sz (rows.take n), hput h id p .u) else none
    | _ => none
  | _ => none
def mvL : Heap → List SV → Option (List T × Heap)
  | h, [] => some ([], h)
  | h, s :: ss => match mv1 h s with
    | some (t, h1) => match mvL h1 ss with
      | some (ts, h2) => some (t :: ts, h2)
      | none => none
    | none => none
def mvC (h : Heap) : SV → Option (List T × Heap)
  | .a cs => mvL h cs
  | .u => none
  | s => match mv1 h s with
    | some (t, h1) => some ([t], h1)
    | none => none
def mvV (h : Heap) : SV → Option (V × Heap)
  | .u => none
  | .a cs => match mvL h cs with
    | some (ts, h1) => some (.a ts, h1)
    | none => none
  | s => match mv1 h s with
    | some (t, h1) => some (.o t, h1)
    | none => none

/-- A value comes into a frame: owned lists become roots. -/
def give1 (h : Heap) (id : Id) : T → Option (SV × Heap)
  | .l true sz rows => match h id with
    | none => some (.r id [] sz 0 rows.length, hnew h id (.l true sz rows))
    | some _ => none
  | t => some (.c t, h)
def giveL : Heap → Nat → Nat → List T → Option (List SV × Heap)
  | h, _, _, [] => some ([], h)
  | h, d, j, t :: ts => match give1 h (d, j) t with
    | some (s, h1) => match giveL h1 d (j + 1) ts with
      | some (ss, h2) => some (s :: ss, h2)
      | none => none
    | none => none
def giveV (h : Heap) (d j : Nat) : V → Option (SV × Heap)
  | .o t => give1 h (d, j) t
  | .a ts => match giveL h d j ts with
    | some (ss, h1) => some (.a ss, h1)
    | none => none
def giveVs : Heap → Nat → Nat → List V → Option (List SV × Heap)
  | h, _, _, [] => some ([], h)
  | h, d, j, v :: vs => match giveV h d j v with
    | some (s, h1) => match giveVs h1 d (j + 100) vs with
      | some (ss, h2) => some (s :: ss, h2)
      | none => none
    | none => none

/-- A value is shown to a callee for the call's time. -/
def bor1 (h : Heap) : SV → Option T
  | .u => some .u
  | .c t => some t.fz
  | .r id p s lo n => match sview h (.r id p s lo n) with
    | some (sz, rows) => some (.l false sz (fzLL rows))
    | none => none
  | _ => none
def borL (h : Heap) : List SV → Option (List SV)
  | [] => some []
  | s :: ss => match bor1 h s with
    | some t => match borL h ss with
      | some ts => some (.c t :: ts)
      | none => none
    | none => none
def borA (h : Heap) : SV → Option SV
  | .a cs => match borL h cs with
    | some ts => some (.a ts)
    | none => none
  | .u => some .u
  | s => match bor1 h s with
    | some t => some (.c t)
    | none => none
def borAs (h : Heap) : List SV → Option (List SV)
  | [] => some []
  | s :: ss => match borA h s with
    | some t => match borAs h ss with
      | some ts => some (t :: ts)
      | none => none
    | none => none

/-- What is lent: the caller's heap with holes, the callee's lists and boxes, where each came from. -/
structure Lend where
  h : Heap
  hc : Heap
  k : Nat
  back : List (Id × Path × Nat × Nat)
  bs : List (List SV)
  bback : List Id
def lend1 (bx : Id → Option (List SV)) (L : Lend) : SV → Option (SV × Lend)
  | .u => some (.u, L)
  | .c t => some (.c t.fz, L)
  | .r id p s lo n => match hat L.h id p with
    | some (.l true sz rows) => if lo = 0 ∧ n = rows.length ∧ s = sz ∧ (L.back.all fun e => !(id == e.1 && p.isPrefixOf e.2.1)) = true then
        some (.r (0, L.k) [] sz 0 n, { L with h := hput L.h id p .u, hc := hnew L.hc (0, L.k) (.l true sz rows), k := L.k + 1, back := (id, p, L.k, sz) :: L.back }) else none
    | _ => none
  | .b id 0 => if L.bback.contains id then none else match bx id with
    | some cs => match mvL L.h cs with
      | some (ts, h1) => match giveL L.hc 0 L.k ts with
        | some (ss, hc1) => some (.b (0, L.bs.length) 0, { L with h := h1, hc := hc1, k := L.k + ts.length, bs := L.bs ++ [ss], bback := L.bback ++ [id] })
        | none => none
      | none => none
    | none => none
  | _ => none
def lendL (bx : Id → Option (List SV)) : Lend → List SV → Option (List SV × Lend)
  | L, [] => some ([], L)
  | L, s :: ss => match lend1 bx L s with
    | some (t, L1) => match lendL bx L1 ss with
      | some (ts, L2) => some (t :: ts, L2)
      | none => none
    | none => none
def lendA (bx : Id → Option (List SV)) (L : Lend) : SV → Option (SV × Lend)
  | .a cs => match lendL bx L cs with
    | some (ts, L1) => some (.a ts, L1)
    | none => none
  | s => lend1 bx L s
def lendAs (bx : Id → Option (List SV)) : Lend → List SV → Option (List SV × Lend)
  | L, [] => some ([], L)
  | L, s :: ss => match lendA bx L s with
    | some (t, L1) => match lendAs bx L1 ss with
      | some (ts, L2) => some (t :: ts, L2)
      | none => none
    | none => none
def giveBack (hc : Heap) : List (Id × Path × Nat × Nat) → Heap → Option Heap
  | [], h => some h
  | (id, p, k, sz) :: b, h => match hc (0, k), hat h id p with
    | some (.l true s rows), some .u => if s = sz then giveBack hc b (hput h id p (.l true s rows)) else none
    | some .u, _ => giveBack hc b h
    | _, _ => none
/-- Lent boxes come back: their lists are new roots. -/
def backB (d : Nat) : Nat → Heap → (Id → Option (List SV)) → List Id → List (List T) → Option (Heap × (Id → Option (List SV)))
  | _, h, bx, [], [] => some (h, bx)
  | j, h, bx, id :: ids, ts :: tss => match giveL h d j ts with
    | some (ss, h1) => backB d (j + 100) h1 (fun i => if i = id then some ss else bx i) ids tss
    | none => none
  | _, _, _, _, _ => none

inductive Op where
  | mv (x : Opd)
  | pick (c a b : Opd)
  | nil (x : Opd)
  | alloc (z : List T)
  | box (x : Opd)
  | build (z : List T) (parts : List (Nat × Nat × Opd))
  | mkn (sz : Nat) (z : List T) (n : Nat) (parts : List (Nat × Opd))
  | mkl (sz : Nat) (z : List T) (n : Nat) (parts : List (Nat × Opd))
  | ldb (agg : Bool) (k : Nat) (x : Opd) (ap api : List Nat)
  | load (agg : Bool) (k : Nat) (x : Opd)
  | stb (k : Nat) (fr : Bool) (a : Nat) (x : Opd)
  | store (k : Nat) (a x : Opd)
  | bin (op : BinOp) (x y : Opd)
  | binb (neg : Bool) (x y : Opd)
  | eqa (ks : List Nat) (neg : Bool) (x y : Opd)
  | un (op : UnOp) (x : Opd)
  | cvi (k : IntKind) (x : Opd)
  | cvb (x : Opd)
  | cvs (x : Opd)
  | cpy (sz : Nat) (x y : Opd)
  | mks (sz : Nat) (z : List T) (n : Opd)
  | slc (sz : Nat) (x : Opd) (lo hi : Option Opd)
  | fld (f : Nat) (x : Opd)
  | part (agg : Bool) (f k : Nat) (x : Opd)
  | ixa (sz : Nat) (x i : Opd)
  | ixs (x i : Opd)
  | ext (x : Opd) (i : Nat)
  | len (x : Opd)
  | lens (x : Opd)
  | app (sz : Nat) (mvs : Bool) (d s : Opd)
  | max (x y : Opd)
  | callp (f : Nat) (n : Nat) (args : List Opd)
  | call (f : Nat) (n : Nat) (args : List Opd)
  | calls (f : Nat) (n : Nat) (args : List Opd)
  | calll (f : Nat) (n : Nat) (args : List Opd)
  deriving Inhabited

structure Oper where
  dst : Option Nat
  guard : Option (Nat × Bool)
  op : Op
  deriving Inhabited

inductive AC where
  | skip
  | reg (draw : Bool) (ops : List Oper)
  | seq (a b : AC)
  | cond (c : Opd) (x y : AC)
  | block (id : Nat) (b : AC)
  | loop (live : List Nat) (b : AC)
  | exit (id : Nat)
  | ret
  deriving Inhabited

structure St where
  σ : Nat → SV
  bx : Id → Option (List SV)
  h : Heap

inductive X where
  | n
  | e (id : Nat)
  | r
  deriving DecidableEq

def isOc : Value → Bool
  | .agg _ | .tuple _ => false
  | _ => true
/-- Scalars, by the model's own operation. -/
def abin (op : BinOp) : Value → Value → Option Value
  | .int k a, .int k' b => match Go.binOp op 0 (.int k a) (.int k' b) with
    | .pure v => if isOc v then some v else none
    | _ => none
  | .string a, .string b => match Go.binOp op 0 (.string a) (.string b) with
    | .pure v => if isOc v then some v else none
    | _ => none
  | _, _ => none
def aun (op : UnOp) (x : Value) : Option Value :=
  match op, x with
  | .not, .bool b => some (.bool !b)
  | _, _ => none

end AM

namespace AM
open Go

abbrev BX := Id → Option (List SV)
def bnew (bx : BX) (id : Id) (cs : List SV) : BX := fun j => if j = id then some cs else bx j
abbrev Call := Nat → List SV → Heap → List (List SV) → Option (List V × Heap × List (List T))

/-- Parts put into zero cells. -/
def fillT : List T → List (Nat × List T) → List T
  | z, [] => z
  | z, (o, ts) :: ps => fillT (z.take o ++ ts ++ z.drop (o + ts.length)) ps
def one : SV → Bool
  | .c _ | .r .. => true
  | _ => false
def cellsS : SV → Option (List SV)
  | .a cs => some cs
  | s => if one s then some [s] else none
def partsV (σ : Nat → SV) : List (Nat × Nat × Opd) → Option (List (Nat × List SV))
  | [] => some []
  | (o, k, x) :: ps => match cellsS (x.ev σ), partsV σ ps with
    | some cs, some qs => if cs.length = k then some ((o, cs) :: qs) else none
    | _, _ => none
def fillS : List SV → List (Nat × List SV) → List SV
  | z, [] => z
  | z, (o, ts) :: ps => fillS (z.take o ++ ts ++ z.drop (o + ts.length)) ps
/-- Elements of a literal, moved. -/
def rowsV (σ : Nat → SV) (sz : Nat) : Heap → List (List T) → List (Nat × Opd) → Option (List (List T) × Heap)
  | h, rows, [] => some (rows, h)
  | h, rows, (i, x) :: ps => match mvC h (x.ev σ) with
    | some (ts, h1) => if ts.length = sz ∧ i < rows.length then rowsV σ sz h1 (rows.set i ts) ps else none
    | none => none

/-- The same, of values that hold no list of the frame's. -/
def unC : SV → Option T
  | .c t => some t
  | _ => none
def unCs : List SV → Option (List T)
  | [] => some []
  | s :: ss => match unC s, unCs ss with
    | some t, some ts => some (t :: ts)
    | _, _ => none
def unA : SV → Option (List T)
  | .a cs => unCs cs
  | s => match unC s with
    | some t => some [t]
    | none => none
def rowsN (σ : Nat → SV) (sz : Nat) : List (List T) → List (Nat × Opd) → Option (List (List T))
  | rows, [] => some rows
  | rows, (i, x) :: ps => match unA (x.ev σ) with
    | some ts => if ts.length = sz ∧ i < rows.length then rowsN σ sz (rows.set i ts) ps else none
    | none => none
def veq : Nat → Value → Value → Option Bool
  | 0, .bool a, .bool b => some (a == b)
  | 1, .int k a, .int k' b => if k = k' then some (a == b) else none
  | 2, .string a, .string b => some (a == b)
  | _, _, _ => none
def veqL : List Nat → List SV → List SV → Option Bool
  | [], [], [] => some true
  | k :: ks, .c (.v a) :: xs, .c (.v b) :: ys => match veq k a b, veqL ks xs ys with
    | some p, some q => some (p && q)
    | _, _ => none
  | _, _, _ => none
def notB (id : Id) : SV → Bool
  | .b id' _ => id != id'
  | _ => false
/-- Arguments that hold no list of the frame's. -/
def pureA : SV → Option SV
  | .a cs => match unCs cs with
    | some ts => some (.a ((fzL ts).map .c))
    | none => none
  | .c t => some (.c t.fz)
  | .u => some .u
  | _ => none
def pureAs : List SV → Option (List SV)
  | [] => some []
  | s :: ss => match pureA s, pureAs ss with
    | some t, some ts => some (t :: ts)
    | _, _ => none

def sv1 (id : Id) (p : Path) (i f : Nat) : T → SV
  | .l true sz rows => .r id (p ++ [(i, f)]) sz 0 rows.length
  | .l false sz rows => .c (.l false sz rows)
  | t => .c t
def svL (id : Id) (p : Path) (i : Nat) : Nat → List T → List SV
  | _, [] => []
  | f, t :: ts => sv1 id p i f t :: svL id p i (f + 1) ts

def ldrow (row : List T) (f k : Nat) : Option (List T) := if f + k ≤ row.length then some ((row.drop f).take k) else none
def agg (isAgg : Bool) (cs : List SV) : Option SV :=
  if isAgg then some (.a cs) else match cs with | [s] => some s | _ => none

def intOf : SV → Option Int
  | .c (.v (.int _ n)) => some n
  | _ => none
def ointOf (σ : Nat → SV) (dflt : Int) : Option Opd → Option Int
  | none => some dflt
  | some x => intOf (x.ev σ)

def bytesT (s : ByteArray) : List (List T) := s.data.toList.map fun x => [.v (.int .u8 x.toNat)]
def bytesOf : List (List T) → Option ByteArray
  | [] => some ByteArray.empty
  | [.v (.int .u8 n)] :: rs => match bytesOf rs with
    | some b => some (⟨#[UInt8.ofNat n.toNat]⟩ ++ b)
    | none => none
  | _ => none
def killed (id : Id) (p : Path) (id' : Id) (q : Path) : Bool := id == id' && !(q.isPrefixOf p)
mutual
def SV.kill (id : Id) (p : Path) : SV → SV
  | .r id' q sz lo n => if killed id p id' q then .u else .r id' q sz lo n
  | .p id' q sz i f => if killed id p id' q then .u else .p id' q sz i f
  | .a cs => .a (killL id p cs)
  | .t cs => .t (killL id p cs)
  | s => s
def killL (id : Id) (p : Path) : List SV → List SV
  | [] => []
  | s :: ss => s.kill id p :: killL id p ss
end

def SV.killAll (back : List (Id × Path × Nat × Nat)) (s : SV) : SV := back.foldl (fun s x => s.kill x.1 x.2.1) s
def killAllL (back : List (Id × Path × Nat × Nat)) (l : List SV) : List SV := back.foldl (fun s x => killL x.1 x.2.1 s) l
def ownVs (vs : List V) : Bool := vs.all fun | .o t => t.own | .a ts => ownL ts
def T.scal : T → Bool
  | .u => true
  | .v _ => true
  | .l .. => false
def scalVs (vs : List V) : Bool := vs.all fun | .o t => t.scal | .a ts => ts.all T.scal
def scalS : V → SV
  | .o t => .c t
  | .a ts => .a (ts.map .c)
/-- The mark of a cut of a string. -/
def SSZ : Nat := 99999
/-- What is appended. -/
def appSrc (h1 : Heap) (sz : Nat) (mvs : Bool) : SV → Option (List (List T) × Heap)
  | .c (.v (.string b)) => if sz = 1 then some (bytesT b, h1) else none
  | .r id p s2 lo n => if mvs then match hat h1 id p with
      | some (.l true s rs) => if lo + n ≤ rs.length ∧ s = sz ∧ s2 = sz then some ((rs.drop lo).take n, hput h1 id p .u) else none
      | _ => none
    else match sview h1 (.r id p s2 lo n) with
      | some (s, rs) => if s = sz ∧ immLL rs = true then some (rs, h1) else none
      | none => none
  | .c (.l _ s rs) => if s = sz then some (rs, h1) else none
  | _ => none
/-- What an operation without a store yields. d: its temporary. -/
def evOp (call : Call) (σ : Nat → SV) (bx : BX) (h : Heap) (d : Nat) : Op → Option (SV × BX × Heap)
  | .mv x => some (x.ev σ, bx, h)
  | .nil x => match x.ev σ with
    | .b id f => some (.b id f, bx, h)
    | _ => none
  | .pick c a b => match c.ev σ with
    | .c (.v (.bool t)) => some (if t then a.ev σ else b.ev σ, bx, h)
    | _ => none
  | .alloc z => match bx (d + 1, 0) with
    | none => some (.b (d + 1, 0) 0, bnew bx (d + 1, 0) (z.map .c), h)
    | some _ => none
  | .box x => match cellsS (x.ev σ) with
    | some cs => match bx (d + 1, 0) with
      | none => some (.b (d + 1, 0) 0, bnew bx (d + 1, 0) cs, h)
      | some _ => none
    | none => none
  | .build z parts => match partsV σ parts with
    | some ps => if (ps.all fun q => decide (q.1 + q.2.length ≤ z.length)) = true then some (.a (fillS (z.map .c) ps), bx, h) else none
    | none => none
  | .mkn sz z n parts => match rowsN σ sz (List.replicate n z) parts with
    | some rows => match h (d + 1, 0) with
      | none => some (.r (d + 1, 0) [] sz 0 rows.length, bx, hnew h (d + 1, 0) (.l true sz rows))
      | some _ => none
    | none => none
  | .mkl sz z n parts => match rowsV σ sz h (List.replicate n z) parts with
    | some (rows, h1) => match h1 (d + 1, 0) with
      | none => some (.r (d + 1, 0) [] sz 0 rows.length, bx, hnew h1 (d + 1, 0) (.l true sz rows))
      | some _ => none
    | none => none
  | .ldb ag k x ap api => match x.ev σ with
    | .b id f => match bx id with
      | some cs => if f + k ≤ cs.length ∧ (ap.all fun n => notB id (σ n)) = true ∧ (api.all fun n => id != (n + 1, 0)) = true then (agg ag ((cs.drop f).take k)).map (·, bx, h) else none
      | none => none
    | _ => none
  | .load ag k x => match x.ev σ with
    | .p id p s i f => match hat h id p with
      | some (.l true sz rows) => if s = sz then match rows[i]? with
        | some row => match ldrow row f k with
          | some ts => (agg ag (svL id p i f ts)).map (·, bx, h)
          | none => none
        | none => none else none
      | _ => none
    | .q row f => match ldrow row f k with
      | some ts => (agg ag (ts.map .c)).map (·, bx, h)
      | none => none
    | _ => none
  | .store .. => none
  | .stb .. => none
  | .bin op x y => match x.ev σ, y.ev σ with
    | .c (.v a), .c (.v b) => (abin op a b).map fun v => (SV.c (.v v), bx, h)
    | _, _ => none
  | .binb ng x y => match x.ev σ, y.ev σ with
    | .c (.v (.bool a)), .c (.v (.bool b)) => some (.c (.v (.bool ((a == b) != ng))), bx, h)
    | _, _ => none
  | .eqa ks ng x y => match x.ev σ, y.ev σ with
    | .a xs, .a ys => match veqL ks xs ys with
      | some b => some (.c (.v (.bool (b != ng))), bx, h)
      | none => none
    | _, _ => none
  | .un op x => match x.ev σ with
    | .c (.v a) => (aun op a).map fun v => (SV.c (.v v), bx, h)
    | _ => none
  | .cvi k x => match x.ev σ with
    | .c (.v (.int _ n)) => some (.c (.v (.int k (k.wrap n))), bx, h)
    | _ => none
  | .cvb x => match x.ev σ with
    | .c (.v (.string s)) => if s.size ≤ LIM then match h (d + 1, 0) with
        | none => some (.r (d + 1, 0) [] 1 0 s.size, bx, hnew h (d + 1, 0) (.l true 1 (bytesT s)))
        | some _ => none
      else none
    | _ => none
  | .cvs x => match sview h (x.ev σ) with
    | some (_, rows) => match bytesOf rows with
      | some b => some (.c (.v (.string b)), bx, h)
      | none => none
    | none => none
  | .cpy .. => none
  | .mks sz z n => match x3 (n.ev σ) with
    | some m => if 0 ≤ m ∧ m.toNat * (sz + 1) ≤ LIM then match h (d + 1, 0) with
        | none => some (.r (d + 1, 0) [] sz 0 m.toNat, bx, hnew h (d + 1, 0) (.l true sz (List.replicate m.toNat z)))
        | some _ => none
      else none
    | none => none
  | .slc sz x lo hi => match x.ev σ with
    | .c (.v (.string s)) => match ointOf σ 0 lo, ointOf σ s.size hi with
      | some l, some m => if 0 ≤ l ∧ l ≤ m ∧ m ≤ s.size ∧ sz = SSZ then some (.c (.v (.string (s.extract l.toNat m.toNat))), bx, h) else none
      | _, _ => none
    | .c (.l o s rows) => match ointOf σ 0 lo, ointOf σ rows.length hi with
      | some l, some m => if 0 ≤ l ∧ l ≤ m ∧ m ≤ rows.length ∧ s = sz ∧ sz ≠ SSZ then
          some (.c (.l o s ((rows.drop l.toNat).take (m.toNat - l.toNat))), bx, h) else none
      | _, _ => none
    | .r id p s lo0 n => match ointOf σ 0 lo, ointOf σ n hi with
      | some l, some m => if 0 ≤ l ∧ l ≤ m ∧ m ≤ n ∧ s = sz ∧ sz ≠ SSZ then some (.r id p s (lo0 + l.toNat) (m.toNat - l.toNat), bx, h) else none
      | _, _ => none
    | _ => none
  | .fld f x => match x.ev σ with
    | .p id p s i g => some (.p id p s i (g + f), bx, h)
    | .b id g => some (.b id (g + f), bx, h)
    | .q row g => some (.q row (g + f), bx, h)
    | _ => none
  | .part ag f k x => match x.ev σ with
    | .a cs => if f + k ≤ cs.length then (agg ag ((cs.drop f).take k)).map (·, bx, h) else none
    | _ => none
  | .ixa sz x i => match intOf (i.ev σ) with
    | some n => match x.ev σ with
      | .c (.l _ s rows) => if 0 ≤ n ∧ s = sz then match rows[n.toNat]? with
          | some row => some (.q row 0, bx, h)
          | none => none
        else none
      | .r id p s lo m => if 0 ≤ n ∧ n < m ∧ s = sz then some (.p id p s (lo + n.toNat) 0, bx, h) else none
      | _ => none
    | none => none
  | .ixs x i => match x.ev σ, intOf (i.ev σ) with
    | .c (.v (.string s)), some n => if 0 ≤ n then match s[n.toNat]? with
        | some b => some (.c (.v (.int .u8 b.toNat)), bx, h)
        | none => none
      else none
    | _, _ => none
  | .ext x i => match x.ev σ with
    | .t vs => match vs[i]? with
      | some s => some (s, bx, h)
      | none => none
    | _ => none
  | .lens x => match x.ev σ with
    | .c (.v (.string s)) => some (.c (.v (.int .i64 s.size)), bx, h)
    | _ => none
  | .len x => match slen (x.ev σ) with
    | some n => some (.c (.v (.int .i64 n)), bx, h)
    | none => none
  | .app sz mvs x y => match mv1 h (x.ev σ) with
    | some (.l true s0 rows, h1) => if s0 = sz then match appSrc h1 sz mvs (y.ev σ) with
      | some (rs, h2) => if (rows.length + rs.length) * (sz + 1) ≤ LIM then match h2 (d + 1, 0) with
          | none => some (.r (d + 1, 0) [] sz 0 (rows.length + rs.length), bx, hnew h2 (d + 1, 0) (.l true sz (rows ++ rs)))
          | some _ => none
        else none
      | none => none
      else none
    | _ => none
  | .max x y => match x.ev σ, y.ev σ with
    | .c (.v (.int k a)), .c (.v (.int _ b)) => some (.c (.v (.int k (if b > a then b else a))), bx, h)
    | _, _ => none
  | .callp f n args => match pureAs (args.map (·.ev σ)) with
    | some as => match call f as (fun _ => none) [] with
      | some (vs, _, _) => if vs.length = n ∧ ownVs vs = true then match giveVs h (d + 1) 0 vs with
          | some (ss, h1) => some (match ss with | [s] => s | _ => .t ss, bx, h1)
          | none => none
        else none
      | none => none
    | none => none
  | .call f n args => match borAs h (args.map (·.ev σ)) with
    | some as => match call f as (fun _ => none) [] with
      | some (vs, _, _) => if vs.length = n ∧ ownVs vs = true then match giveVs h (d + 1) 0 vs with
          | some (ss, h1) => some (match ss with | [s] => s | _ => .t ss, bx, h1)
          | none => none
        else none
      | none => none
    | none => none
  | .calls f n args => match borAs h (args.map (·.ev σ)) with
    | some as => match call f as (fun _ => none) [] with
      | some (vs, _, _) => if vs.length = n ∧ scalVs vs = true then some (match vs.map scalS with | [s] => s | ss => .t ss, bx, h) else none
      | none => none
    | none => none
  | .calll .. => none
where
  x3 : SV → Option Int := intOf

/-- How many lists or boxes may be lent. -/
def LCAN : Nat := 1000000
/-- A call that is lent what it is handed. -/
def evLend (call : Call) (s : St) (d f n : Nat) (args : List Opd) : Option St :=
  match lendAs s.bx ⟨s.h, fun _ => none, 0, [], [], []⟩ (args.map (·.ev s.σ)) with
  | some (as, L) => match call f as L.hc L.bs with
    | some (vs, hc, bs) => if vs.length = n ∧ ownVs vs = true ∧ (bs.all ownL) = true ∧ L.k ≤ LCAN ∧ L.bs.length ≤ LCAN then
        match giveBack hc L.back L.h with
        | some h0 => match backB (d + 1) 1000 h0 (fun j => (s.bx j).map (killAllL L.back)) L.bback bs with
          | some (h1, bx2) => match giveVs h1 (d + 1) 0 vs with
            | some (ss, h2) => some ⟨upd (fun j => (s.σ j).killAll L.back) d (match ss with | [s] => s | _ => .t ss), bx2, h2⟩
            | none => none
          | none => none
        | none => none
      else none
    | none => none
  | none => none

def exec (call : Call) (o : Oper) (s : St) : Option St :=
  match o.op with
  | .store k a x => match a.ev s.σ with
    | .p id p s2 i f => match mvC s.h (x.ev s.σ) with
      | some (ts, h1) => match hat h1 id p with
        | some (.l true sz rows) => if s2 = sz then match rows[i]? with
          | some row => if f + k ≤ row.length ∧ ts.length = k then
              some ⟨fun j => (s.σ j).kill id p, fun j => (s.bx j).map (killL id p), hput h1 id p (.l true sz (rows.set i (row.take f ++ ts ++ row.drop (f + k))))⟩ else none
          | none => none else none
        | _ => none
      | none => none
    | _ => none
  | .stb k fr a x => match s.σ a with
    | .b id f => match cellsS (x.ev s.σ), s.bx id with
      | some xs, some cs => if f + k ≤ cs.length ∧ xs.length = k ∧ (fr = false ∨ id = (a + 1, 0)) then some { s with bx := bnew s.bx id (cs.take f ++ xs ++ cs.drop (f + k)) } else none
      | _, _ => none
    | _ => none
  | .cpy sz x y => match o.dst with
    | some d => match x.ev s.σ, sview s.h (y.ev s.σ) with
      | .r id p s3 lo n, some (s4, rs) => match hat s.h id p with
        | some (.l true s2 rows) => if lo + n ≤ rows.length ∧ s4 = sz ∧ s2 = sz ∧ s3 = sz ∧ immLL (rs.take n) = true then
            some ⟨upd (fun j => (s.σ j).kill id p) d (.c (.v (.int .i64 (Nat.min rs.length n)))), fun j => (s.bx j).map (killL id p),
              hput s.h id p (.l true sz (rows.take lo ++ rs.take n ++ rows.drop (lo + Nat.min rs.length n)))⟩ else none
        | _ => none
      | .c (.l _ s2 rows), some (s4, rs) => if s4 = sz ∧ s2 = sz ∧ (rows = [] ∨ rs = []) then some { s with σ := upd s.σ d (.c (.v (.int .i64 0))) } else none
      | _, _ => none
    | none => none
  | .calll f n args => match o.dst with
    | some d => evLend call s d f n args
    | none => none
  | op => match o.dst with
    | some d => match evOp call s.σ s.bx s.h d op with
      | some (v, bx1, h1) => some ⟨upd s.σ d v, bx1, h1⟩
      | none => none
    | none => none

def _root_.Go.Value.isB (b : Bool) : Value → Bool
  | .bool x => x == b
  | _ => false
def execG (call : Call) (o : Oper) (s : St) : Option St :=
  match o.guard with
  | none => exec call o s
  | some (g, b) => match s.σ g with
    | .c (.v x) => if x.isB b then exec call o s else match o.dst with
      | some d => some { s with σ := upd s.σ d (.t []) }
      | none => some s
    | .t [] => match o.dst with
      | some d => some { s with σ := upd s.σ d (.t []) }
      | none => some s
    | _ => none

def runOps (call : Call) : List Oper → St → Option St
  | [], s => some s
  | o :: os, s => match execG call o s with
    | some s1 => runOps call os s1
    | none => none

/-- A loop's head: the live slots are kept, their roots are numbered anew; what was lent keeps its name. -/
def CAN : Nat := 1000000
def isLent (id : Id) : Bool := id.1 == 0 && decide (id.2 < CAN)
mutual
def SV.lsI : SV → List Id
  | .r id .. => [id]
  | .p id .. => [id]
  | .a cs => lsIL cs
  | .t cs => lsIL cs
  | _ => []
def lsIL : List SV → List Id
  | [] => []
  | s :: ss => s.lsI ++ lsIL ss
end
mutual
def SV.bxI : SV → List Id
  | .b id _ => [id]
  | .a cs => bxIL cs
  | .t cs => bxIL cs
  | _ => []
def bxIL : List SV → List Id
  | [] => []
  | s :: ss => s.bxI ++ bxIL ss
end
/-- The new name of what stands in a list of names; what was lent keeps its own. -/
def newId (ids : List Id) (id : Id) : Id := if isLent id then id else (ids.idxOf id, CAN)
/-- What a new name stood for. -/
def oldId (ids : List Id) (id : Id) : Option Id := if isLent id then some id else if id.2 = CAN then ids[id.1]? else none
mutual
def SV.ren (ls bs : List Id) : SV → SV
  | .r id p sz lo n => if isLent id || ls.contains id then .r (newId ls id) p sz lo n else .u
  | .p id p sz i f => if isLent id || ls.contains id then .p (newId ls id) p sz i f else .u
  | .b id f => if isLent id || bs.contains id then .b (newId bs id) f else .u
  | .a cs => .a (renL ls bs cs)
  | .t cs => .t (renL ls bs cs)
  | s => s
def renL (ls bs : List Id) : List SV → List SV
  | [] => []
  | s :: ss => s.ren ls bs :: renL ls bs ss
end
def dedup (l : List Id) : List Id := l.foldl (fun acc id => if isLent id || acc.contains id then acc else acc ++ [id]) []
def setAll (σ : Nat → SV) : List Nat → (Nat → SV)
  | [] => fun _ => .u
  | k :: ks => upd (setAll σ ks) k (σ k)
/-- Lent boxes. -/
def lentB (n : Nat) : List Id := (List.range n).map fun k => (0, k)
def cellsOf (bx : BX) (ids : List Id) : List SV := ids.flatMap fun id => (bx id).getD []
def canon (nb : Nat) (live : List Nat) (s : St) : St :=
  let vs := live.map s.σ
  let bs := dedup (bxIL vs)
  let ls := dedup (lsIL vs ++ lsIL (cellsOf s.bx (bs ++ lentB nb)))
  ⟨setAll (fun k => (s.σ k).ren ls bs) live, fun id => match oldId bs id with | some j => (s.bx j).map (renL ls bs) | none => none,
   fun id => match oldId ls id with | some j => s.h j | none => none⟩

def iter (nb : Nat) (body : St → Option (X × St)) (live : List Nat) : Nat → St → Option (X × St)
  | 0, _ => none
  | k + 1, s => match body (canon nb live s) with
    | some (.n, s1) => iter nb body live k s1
    | r => r

def run (call : Call) (nb k : Nat) : AC → St → Option (X × St)
  | .skip, s => some (.n, s)
  | .reg _ ops, s => match runOps call ops s with | some s1 => some (.n, s1) | none => none
  | .seq a b, s => match run call nb k a s with
    | some (.n, s1) => run call nb k b s1
    | r => r
  | .cond c x y, s => match c.ev s.σ with
    | .c (.v (.bool b)) => if b then run call nb k x s else run call nb k y s
    | _ => none
  | .block id b, s => match run call nb k b s with
    | some (.e j, s1) => if j = id then some (.n, s1) else some (.e j, s1)
    | r => r
  | .loop live b, s => iter nb (run call nb k b) live k s
  | .exit id, s => some (.e id, s)
  | .ret, s => some (.r, s)

inductive RV where
  | tmp (n : Nat)
  | cell (n : Nat) (ag : Bool) (k : Nat)
  deriving Inhabited
structure AF where
  code : AC
  res : List RV
  deriving Inhabited

def getRes (σ : Nat → SV) (bx : BX) : Heap → List RV → Option (List V × Heap)
  | h, [] => some ([], h)
  | h, .tmp n :: rs => match mvV h (σ n) with
    | some (v, h1) => match getRes σ bx h1 rs with
      | some (vs, h2) => some (v :: vs, h2)
      | none => none
    | none => none
  | h, .cell n ag k :: rs => match σ n with
    | .b id 0 => match bx id with
      | some cs => if cs.length = k then match agg ag cs with
        | some x => match mvV h x with
          | some (v, h1) => match getRes σ bx h1 rs with
            | some (vs, h2) => some (v :: vs, h2)
            | none => none
          | none => none
        | none => none else none
      | none => none
    | _ => none
/-- The lent boxes' cells, moved. -/
def getB (bx : BX) : Heap → Nat → Nat → Option (List (List T) × Heap)
  | h, _, 0 => some ([], h)
  | h, k, n + 1 => match bx (0, k) with
    | some cs => match mvL h cs with
      | some (ts, h1) => match getB bx h1 (k + 1) n with
        | some (r, h2) => some (ts :: r, h2)
        | none => none
      | none => none
    | none => none
def fin (nb : Nat) (res : List RV) (s : St) : Option (List V × Heap × List (List T)) :=
  match getRes s.σ s.bx s.h res with
  | some (vs, h1) => match getB s.bx h1 0 nb with
    | some (bs, h2) => some (vs, h2, bs)
    | none => none
  | none => none

def callF (Γ : Nat → Option AF) : Nat → Call
  | 0, _, _, _, _ => none
  | k + 1, f, args, h, bs => match Γ f with
    | none => none
    | some af => match run (callF Γ k) bs.length k af.code ⟨fun i => args.getD i .u, fun id => if id.1 = 0 then bs[id.2]? else none, h⟩ with
      | some (.n, s) => fin bs.length af.res s
      | some (.r, s) => fin bs.length af.res s
      | _ => none
end AM

namespace AM
open Go

/-- The cells of a type: a slice's cell with its elements' size. -/
def tyCells (P : Program) : Nat → TypeId → Option (List (Option Nat))
  | 0, _ => none
  | k + 1, t => match P.underlying t with
    | some .bool | some (.int _) | some .string | some (.interface _) => some [none]
    | some (.slice e) => some [some (P.cellsOf e)]
    | some (.pointer _) => some [none]
    | some (.struct fs) => fs.toList.foldr (fun f r => match tyCells P k f.type, r with | some a, some b => some (a ++ b) | _, _ => none) (some [])
    | _ => none
def opsM {α β : Type} (f : α → Option β) : List α → Option (List β)
  | [] => some []
  | x :: xs => match f x, opsM f xs with | some y, some ys => some (y :: ys) | _, _ => none
def cellT (x : Option Nat × Value) : Option T :=
  match x with
  | (some sz, .slice none 0 0) => some (.l true sz [])
  | (none, v) => if v.oneCell' = true then some (.v v) else none
  | _ => none
def cellsT (cs : List (Option Nat)) (vs : List Value) : Option (List T) := if cs.length = vs.length then opsM cellT (cs.zip vs) else none
def zeroT (P : Program) (t : TypeId) : Option (List T) :=
  match tyCells P 20 t, (P.info? t).bind (·.zero) with
  | some cs, some z => cellsT cs z.cells.toList
  | _, _ => none
def isAggB (P : Program) (t : TypeId) : Bool := match P.underlying t with | some (.struct _) | some (.array ..) => true | _ => false
/-- Struct or not, and how many cells. -/
def szC (P : Program) (t : TypeId) : Option (Bool × Nat) := match P.underlying t, P.info? t with
  | some _, some i => some (isAggB P t, i.size)
  | _, _ => none
def constS (P : Program) (t : TypeId) : Value → Option SV
  | .slice none 0 0 => match P.underlying t with | some (.slice e) => some (.c (.l true (P.cellsOf e) [])) | _ => none
  | .agg cs => match tyCells P 20 t with
    | some ts => (cellsT ts cs.toList).map fun l => .a (l.map .c)
    | none => none
  | .slice .. | .pointer .. | .map _ | .chan _ | .func .. | .tuple _ | .iface .. => none
  | v => some (.c (.v v))
def opdC (P : Program) (t : TypeId) : Operand → Option Opd
  | .tmp n => some (.t n)
  | .const v => (constS P t v).map .c
  | _ => none
def optC (P : Program) : Option Operand → Option (Option Opd)
  | none => some none
  | some x => (opdC P 0 x).map some

/-- Hints: which calls lend (by their temporary), which appends move their source. -/
structure Hint where
  lend : List Nat := []
  mvs : List Nat := []
  lst : List Nat := []
  pure : List Nat := []
  deriving Inhabited

/-- A type's size in bytes and its zero value's cells, as the operations that make rows want them. -/
def elemOk (P : Program) (e : TypeId) (k : Nat) : Bool := match P.info? e, zeroT P e with
  | some i, some z => decide (i.bytes ≤ 24 * k) && z.length == k
  | _, _ => false
/-- A slice type's elements: their type and cells. -/
def sliceElem (P : Program) (t : TypeId) : Option (TypeId × Nat) := match P.underlying t with
  | some (.slice e) => match szC P e with | some (_, k) => some (e, k) | none => none
  | _ => none
def fieldOf (P : Program) (s : TypeId) (f : Nat) : Option (Field × Bool × Nat) := match P.underlying s with
  | some (.struct fs) => match fs[f]? with
    | some x => match szC P x.type with | some (b, k) => some (x, b, k) | none => none
    | none => none
  | _ => none

/-- The fields' kinds, where a comparison of structs is one of their cells, one by one. -/
def eqFs (P : Program) : Nat → List Field → Option (List Nat)
  | _, [] => some []
  | j, f :: fs => if f.name ≠ "_" ∧ f.offset = j then match P.underlying f.type, eqFs P (j + 1) fs with
      | some .bool, some ks => some (0 :: ks)
      | some (.int _), some ks => some (1 :: ks)
      | some .string, some ks => some (2 :: ks)
      | _, _ => none
    else none
/-- No slice in it. -/
def scalTy (P : Program) (t : TypeId) : Bool := match tyCells P 20 t with | some cs => cs.all (·.isNone) | none => false
/-- Does a pointer come out of a slice's element, as far as this region tells? -/
def fromIx (H : Hint) (ops : List Go.Oper) : Nat → Operand → Bool
  | 0, _ => false
  | k + 1, .tmp t => H.lst.contains t || (match ops.find? (·.dst == some t) with
    | some o => match o.op with
      | .indexAddr .. => true
      | .fieldAddr _ x _ => fromIx H ops k x
      | .nilCheck x | .move x | .assign x => fromIx H ops k x
      | _ => false
    | none => false)
  | _, _ => false
def uni (a b : List Nat) : List Nat := b.foldl (fun s x => if s.contains x then s else x :: s) a
/-- What stands ahead of each operation, by the edges that bind always. -/
def ahead (ops : List Go.Oper) : List (List Nat) :=
  ops.foldl (fun (acc : List (List Nat)) o => acc ++ [(o.after.toList.filter (Region.binds .any ·)).foldl (fun s e => if e.on < acc.length && !s.contains e.on then uni s (e.on :: acc.getD e.on []) else s) []]) []
/-- The pointers of stores to boxes that may come ahead of operation i. -/
def newHere (ops : List Go.Oper) (t : Nat) : Bool := ops.any fun o => o.dst == some t && (match o.op with | .alloc _ => true | _ => false)
def apartC (H : Hint) (ops : List Go.Oper) (i : Nat) (fr : Bool) : List Nat :=
  let as := ahead ops
  (List.range ops.length).flatMap fun j => if i < j && !(as.getD j []).contains i then match ops[j]? with
    | some { op := .store _ (.tmp t) _, .. } => if fromIx H ops 20 (.tmp t) || newHere ops t != fr then [] else [t]
    | _ => [] else []
/-- What append may take its elements from. -/
def srcTy (P : Program) (u : TypeId) : Bool := match P.underlying u with | some (.slice _) | some .string => true | _ => false
def appMvs (H : Hint) (ops : List Go.Oper) (d : Nat) (y : Opd) : Bool :=
  (match y with | .t m => ops.any fun o => o.dst == some m && (match o.op with | .buildSlice .. => true | _ => false) | _ => false) || H.mvs.contains d
def opC (P : Program) (H : Hint) (draw : Bool) (ops : List Go.Oper) (i : Nat) (o : Go.Oper) : Option Op :=
  match o.op with
  | .move x | .assign x => (opdC P o.type x).map .mv
  | .nilCheck x => (opdC P 0 x).map .nil
  | .pick c a b => match opdC P 0 c, opdC P o.type a, opdC P o.type b with | some c, some a, some b => some (.pick c a b) | _, _, _ => none
  | .alloc e => (zeroT P e).map .alloc
  | .box e x => (opdC P e x).map .box
  | .build t parts => match P.underlying t, zeroT P t with
    | some (.struct fs), some z => if fs.all (fun f => (P.info? f.type).isSome) = false then none else (opsM (fun (p : Nat × Operand) => match fs[p.1]? with
        | some f => match szC P f.type with
          | some (_, k) => (opdC P f.type p.2).map fun x => (f.offset, k, x)
          | none => none
        | none => none) parts.toList).map (.build z)
    | _, _ => none
  | .buildSlice t n parts => match sliceElem P t with
    | some (e, k) => match zeroT P e with
      | some z => if n * k ≤ 16777216 ∧ elemOk P e k = true then (opsM (fun (p : Nat × Operand) => (opdC P e p.2).map fun x => (p.1, x)) parts.toList).map ((if n == 0 || scalTy P e then Op.mkn else Op.mkl) k z n) else none
      | none => none
    | none => none
  | .load t x => match szC P t with
    | none => none
    | some (ag, k) => (opdC P 0 x).map fun y => if fromIx H ops 20 x then .load ag k y else .ldb ag k y (if draw then apartC H ops i false else []) (if draw then apartC H ops i true else [])
  | .store t a x => if o.dst.isSome then none else match opdC P 0 a, opdC P t x, szC P t with
    | some b, some x, some (_, k) => if fromIx H ops 20 a then some (.store k b x) else match b with
      | .t n => some (.stb k (draw && newHere ops n) n x)
      | _ => none
    | _, _, _ => none
  | .binOp op t x y _ => match opdC P t x, opdC P t y with 
    | some x, some y => match P.underlying t with
      | some .bool => (match op with | .eql => some (.binb false x y) | .neq => some (.binb true x y) | _ => none)
      | some (.struct fs) => if !P.eqGuardType P.depth t && !P.stoodInHeld t then
          (match eqFs P 0 fs.toList, op with | some ks, .eql => some (.eqa ks false x y) | some ks, .neq => some (.eqa ks true x y) | _, _ => none) else none
      | _ => some (.bin op x y)
    | _, _ => none
  | .unOp op t x => (opdC P t x).map (.un op)
  | .convert s d x => match P.underlying s, P.underlying d with
    | some (.int _), some (.int k) => (opdC P 0 x).map (.cvi k)
    | some (.slice e), some .string => match P.underlying e with | some (.int .u8) => (opdC P s x).map .cvs | _ => none
    | _, _ => none
  | .makeSlice t l c => match sliceElem P t with
    | some (e, sz) => if elemOk P e sz = false then none else match zeroT P e, opdC P 0 l, opdC P 0 c with
      | some z, some (.t a), some (.t b) => if a = b then some (.mks sz z (.t a)) else none
      | some z, some (.c (.c (.v (.int k a)))), some (.c (.c (.v (.int k' b)))) => if a = b ∧ k = k' then some (.mks sz z (.c (.c (.v (.int k a))))) else none
      | _, _, _ => none
    | none => none
  | .slice t x lo hi none => match opdC P t x, optC P lo, optC P hi with
    | some x, some lo, some hi => match P.underlying t, sliceElem P t with
      | some .string, _ => some (.slc SSZ x lo hi)
      | _, some (_, k) => if k = SSZ then none else some (.slc k x lo hi)
      | _, _ => none
    | _, _, _ => none
  | .fieldAddr s x f => match fieldOf P s f, opdC P 0 x with | some (f, _, k), some x => if k = 0 then none else some (.fld f.offset x) | _, _ => none
  | .field s x f => match fieldOf P s f, opdC P s x with | some (f, ag, k), some x => some (.part ag f.offset k x) | _, _ => none
  | .indexAddr t x i => match sliceElem P t, opdC P 0 x, opdC P 0 i with | some (_, k), some x, some i => some (.ixa k x i) | _, _, _ => none
  | .index t x i => match P.underlying t, opdC P 0 x, opdC P 0 i with | some .string, some x, some i => some (.ixs x i) | _, _, _ => none
  | .extract x i => (opdC P 0 x).map (.ext · i)
  | .call { callee := .builtin .len, args, argTypes } => match args.toList, argTypes.toList with
    | [x], [t] => match P.underlying t with
      | some .string => (opdC P t x).map .lens
      | some (.slice _) => (opdC P t x).map .len
      | _ => none
    | _, _ => none
  | .call { callee := .builtin .append, args, argTypes } => match args.toList, argTypes.toList with
    | [x, y], [t, u] => if srcTy P u = false then none else match sliceElem P t, opdC P t x, opdC P u y with
      | some (e, k), some x, some y => match o.dst with
        | some d => if elemOk P e k = false then none else some (.app k (appMvs H ops d y) x y)
        | none => none
      | _, _, _ => none
    | _, _ => none
  | .call { callee := .builtin .copy, args, argTypes } => match args.toList, argTypes.toList with
    | [x, y], [t, u] => match sliceElem P t, sliceElem P u, opdC P t x, opdC P u y with
      | some (_, k), some _, some x, some y => some (.cpy k x y)
      | _, _, _, _ => none
    | _, _ => none
  | .call { callee := .builtin .max, args, argTypes } => match args.toList, argTypes.toList with
    | [x, y], [t, _] => match P.underlying t, opdC P t x, opdC P t y with
      | some (.int _), some x, some y => some (.max x y)
      | _, _, _ => none
    | _, _ => none
  | .call { callee := .value (.func f), args, argTypes } => match P.funcs[f]?, o.dst with
    | some fn, some _ => if (fn.body.isSome ∧ (fn.name == "runtime.NumGoroutine") = false) ∧ args.size = argTypes.size ∧ fn.params.size = args.size then
        (opsM (fun (p : Operand × TypeId) => opdC P p.2 p.1) (args.toList.zip argTypes.toList)).map (if H.lend.contains f then .calll f fn.results.size else if fn.resultTypes.all (scalTy P) then .calls f fn.results.size else if H.pure.contains (o.dst.getD 0) then .callp f fn.results.size else .call f fn.results.size)
      else none
    | _, _ => none
  | _ => none

def guardC (ops : List Go.Oper) : Option (Nat × Bool) → Option (Option (Nat × Bool))
  | none => some none
  | some (j, b) => match ops[j]? with
    | some o => match o.dst with | some d => some (some (d, b)) | none => none
    | none => none
def operC (P : Program) (H : Hint) (draw : Bool) (ops : List Go.Oper) (x : Go.Oper × Nat) : Option Oper :=
  let o := x.1
  match opC P H draw ops x.2 o, guardC ops o.guard with
  | some op, some g => some ⟨o.dst, g, op⟩
  | _, _ => none

/-- 0: slots alone · 1: reads a box · 2: reads lists · 3: makes a box · 4: makes a list · 5: reads lists and makes one · 6: turns lists · 7: turns a box · 9: turns slots, too. -/
def Op.cls : Op → Nat
  | .mv _ | .nil _ | .pick .. | .build .. | .bin .. | .binb .. | .eqa .. | .un .. | .cvi .. | .slc .. | .fld .. | .part .. | .ixa .. | .ixs .. | .ext .. | .len _ | .lens _ | .max .. => 0
  | .ldb .. => 1
  | .load .. | .cvs _ | .calls .. => 2
  | .alloc _ | .box _ => 3
  | .mkn .. | .mks .. | .cvb _ | .callp .. => 4
  | .call .. => 5
  | .mkl .. | .app .. => 6
  | .stb .. => 7
  | .store .. | .cpy .. | .calll .. => 9
/-- May the later one go first? -/
def clsOk : Nat → Nat → Bool
  | 9, _ | _, 9 => false
  | 0, _ | _, 0 => true
  | 1, 7 | 7, 1 | 7, 7 | 7, 3 | 3, 7 => false
  | 1, _ | 3, _ | 7, _ | _, 1 | _, 3 | _, 7 => true
  | 2, 2 | 2, 4 | 2, 5 | 4, 2 | 4, 4 | 4, 5 | 4, 6 | 5, 2 | 5, 4 | 6, 4 => true
  | _, _ => false
def Opd.slot : Opd → List Nat
  | .t n => [n]
  | .c _ => []
def oslot : Option Opd → List Nat
  | some x => x.slot
  | none => []
def Op.slots : Op → List Nat
  | .mv x | .nil x | .box x | .load _ _ x | .un _ x | .cvi _ x | .cvb x | .cvs x | .mks _ _ x | .fld _ x | .part _ _ _ x | .ext x _ | .len x | .lens x => x.slot
  | .ldb _ _ x ap _ => x.slot ++ ap
  | .stb _ _ a x => a :: x.slot
  | .pick a b c => a.slot ++ b.slot ++ c.slot
  | .alloc _ => []
  | .build _ ps => ps.flatMap fun p => p.2.2.slot
  | .mkl _ _ _ ps | .mkn _ _ _ ps => ps.flatMap fun p => p.2.slot
  | .store _ a x | .eqa _ _ a x | .binb _ a x | .bin _ a x | .ixa _ a x | .ixs a x | .app _ _ a x | .cpy _ a x | .max a x => a.slot ++ x.slot
  | .slc _ x a b => x.slot ++ oslot a ++ oslot b
  | .callp _ _ as | .call _ _ as | .calls _ _ as | .calll _ _ as => as.flatMap Opd.slot
def Oper.reads (o : Oper) : List Nat := o.op.slots ++ (match o.guard with | some (g, _) => [g] | none => [])
def Oper.dsts (o : Oper) : List Nat := match o.dst with | some d => [d] | none => []
/-- b may be moved ahead of a. -/
def swapOk (a b : Oper) : Bool :=
  (clsOk a.op.cls b.op.cls || (match a.op, b.op with | .ldb _ _ _ ap api, .stb _ fr s _ => ap.contains s || (fr && api.contains s) | _, _ => false)) &&
  (a.dsts.all fun x => !b.reads.contains x && !b.dsts.contains x) && (b.dsts.all fun y => !a.reads.contains y)
def pairsOk (as : List (List Nat)) (os : List Oper) : Bool :=
  (List.range os.length).all fun i => (List.range i).all fun j => (as.getD i []).contains j || match os[j]?, os[i]? with | some a, some b => swapOk a b | _, _ => false
/-- Each edge that binds always leads back. -/
def backOk (ops : List Go.Oper) : Bool := ops.zipIdx.all fun (o, i) => o.after.toList.all fun e => !Region.binds .any e || e.on < i
def Op.opds : Op → List Opd
  | .mv x | .nil x | .box x | .load _ _ x | .un _ x | .cvi _ x | .cvb x | .cvs x | .mks _ _ x | .fld _ x | .part _ _ _ x | .ext x _ | .len x | .lens x | .ldb _ _ x _ _ | .stb _ _ _ x => [x]
  | .pick a b c => [a, b, c]
  | .alloc _ => []
  | .build _ ps => ps.map fun p => p.2.2
  | .mkl _ _ _ ps | .mkn _ _ _ ps => ps.map fun p => p.2
  | .store _ a x | .eqa _ _ a x | .binb _ a x | .bin _ a x | .ixa _ a x | .ixs a x | .app _ _ a x | .cpy _ a x | .max a x => [a, x]
  | .slc _ x a b => x :: (a.toList ++ b.toList)
  | .callp _ _ as | .call _ _ as | .calls _ _ as | .calll _ _ as => as
mutual
/-- No list and no box is named in it. -/
def SV.bare : SV → Bool
  | .r .. | .p .. | .b .. => false
  | .a cs => bareL cs
  | .t cs => bareL cs
  | _ => true
def bareL : List SV → Bool
  | [] => true
  | s :: ss => s.bare && bareL ss
end
def Opd.bare : Opd → Bool
  | .t _ => true
  | .c s => s.bare
def drawOk (ops : List Go.Oper) (os : List Oper) : Bool := backOk ops && pairsOk (ahead ops) os && os.all fun o => o.op.opds.all Opd.bare
/-- Every operation's slot is there. -/
def dstOk (n : Nat) : AC → Bool
  | .reg _ os => os.all fun o => match o.dst with | some d => decide (d < n) | none => true
  | .seq a b => dstOk n a && dstOk n b
  | .cond _ a b => dstOk n a && dstOk n b
  | .block _ b => dstOk n b
  | .loop _ b => dstOk n b
  | _ => true
/-- live: what is live at the loops' heads, in the text's order. -/
def comp (P : Program) (H : Hint) : List (List Nat) → Code → Option (AC × List (List Nat))
  | L, .skip => some (.skip, L)
  | L, .region _ ops draw => (opsM (operC P H draw ops.toList) ops.toList.zipIdx).bind fun os => if draw && !drawOk ops.toList os then none else some (.reg draw os, L)
  | L, .seq a b => match comp P H L a with
    | some (x, L1) => match comp P H L1 b with | some (y, L2) => some (.seq x y, L2) | none => none
    | none => none
  | L, .cond c a b => match opdC P 0 c with
    | some c => match comp P H L a with
      | some (x, L1) => match comp P H L1 b with | some (y, L2) => some (.cond c x y, L2) | none => none
      | none => none
    | none => none
  | L, .block id b => match comp P H L b with | some (x, L1) => some (.block id x, L1) | none => none
  | L, .loop b => match L with
    | l :: L1 => match comp P H L1 b with | some (x, L2) => some (.loop l x, L2) | none => none
    | [] => none
  | L, .exit id => some (.exit id, L)
  | L, .ret => some (.ret, L)
  | _, _ => none

def resC (P : Program) : ResultVar → Option RV
  | .tmp n => some (.tmp n)
  | .cell n t => match szC P t with | some (b, k) => some (.cell n b k) | none => none
def compF (P : Program) (H : Hint) (L : List (List Nat)) (fn : Func) : Option AF :=
  match fn.body with
  | some c => match comp P H L c, opsM (resC P) fn.results.toList with
    | some (x, []), some rs => if dstOk fn.ntmps x then some ⟨x, rs⟩ else none
    | _, _ => none
  | none => none
end AM

namespace AM
open Go

/-- A loop, without a bound on its rounds. -/
noncomputable def iterL (nb : Nat) (body : St → Option (X × St)) (live : List Nat) (s : St) : Option (X × St) :=
  open Classical in if h : ∃ n r, iter nb body live n s = some r then some (Classical.choose (Classical.choose_spec h)) else none

theorem iter_mono {nb : Nat} {body : St → Option (X × St)} {live : List Nat} : ∀ {n : Nat} {s : St} {r : X × St}, iter nb body live n s = some r → iter nb body live (n + 1) s = some r
  | 0, _, _, h => by simp [iter] at h
  | n + 1, s, r, h => by
    rw [iter] at h ⊢
    revert h
    split
    · intro h; exact iter_mono h
    · exact id
theorem iter_le {nb : Nat} {body : St → Option (X × St)} {live : List Nat} {n m : Nat} {s : St} {r : X × St} (h : iter nb body live n s = some r) (hm : n ≤ m) : iter nb body live m s = some r := by
  induction m with
  | zero => obtain rfl : n = 0 := by omega
            exact h
  | succ m ih =>
    by_cases e : n = m + 1
    · exact e ▸ h
    · exact iter_mono (ih (by omega))
theorem iterL_some {nb : Nat} {body : St → Option (X × St)} {live : List Nat} {s : St} {r : X × St} : iterL nb body live s = some r ↔ ∃ n, iter nb body live n s = some r := by
  unfold iterL
  constructor
  · intro h
    split at h
    · rename_i hx
      obtain rfl := Option.some.inj h
      exact ⟨_, Classical.choose_spec (Classical.choose_spec hx)⟩
    · cases h
  · rintro ⟨n, h⟩
    have hx : ∃ n r, iter nb body live n s = some r := ⟨n, r, h⟩
    rw [dif_pos hx]
    have h2 := Classical.choose_spec (Classical.choose_spec hx)
    have a := iter_le h2 (Nat.le_max_left _ n)
    have b := iter_le h (Nat.le_max_right (Classical.choose hx) n)
    rw [← a, ← b]
theorem iterL_eq (nb : Nat) (body : St → Option (X × St)) (live : List Nat) (s : St) :
    iterL nb body live s = match body (canon nb live s) with | some (.n, s1) => iterL nb body live s1 | r => r := by
  apply Option.ext
  intro r
  rw [iterL_some]
  have key : ∀ n, iter nb body live (n + 1) s = match body (canon nb live s) with | some (.n, s1) => iter nb body live n s1 | r => r := fun n => rfl
  rcases hb : body (canon nb live s) with _ | ⟨x, s1⟩
  · simp only [hb] at key ⊢
    exact ⟨fun ⟨n, h⟩ => by cases n with | zero => simp [iter] at h | succ n => rw [key] at h; exact h, fun h => by cases h⟩
  · cases x with
    | n =>
      simp only [hb] at key ⊢
      rw [iterL_some]
      exact ⟨fun ⟨n, h⟩ => by cases n with | zero => simp [iter] at h | succ n => rw [key] at h; exact ⟨n, h⟩, fun ⟨n, h⟩ => ⟨n + 1, by rw [key]; exact h⟩⟩
    | e j =>
      simp only [hb] at key ⊢
      exact ⟨fun ⟨n, h⟩ => by cases n with | zero => simp [iter] at h | succ n => rw [key] at h; exact h, fun h => ⟨1, by rw [key]; exact h⟩⟩
    | r =>
      simp only [hb] at key ⊢
      exact ⟨fun ⟨n, h⟩ => by cases n with | zero => simp [iter] at h | succ n => rw [key] at h; exact h, fun h => ⟨1, by rw [key]; exact h⟩⟩

noncomputable def drun (call : Call) (nb : Nat) : AC → St → Option (X × St)
  | .skip, s => some (.n, s)
  | .reg _ ops, s => match runOps call ops s with | some s1 => some (.n, s1) | none => none
  | .seq a b, s => match drun call nb a s with
    | some (.n, s1) => drun call nb b s1
    | r => r
  | .cond c x y, s => match c.ev s.σ with
    | .c (.v (.bool b)) => if b then drun call nb x s else drun call nb y s
    | _ => none
  | .block id b, s => match drun call nb b s with
    | some (.e j, s1) => if j = id then some (.n, s1) else some (.e j, s1)
    | r => r
  | .loop live b, s => iterL nb (drun call nb b) live s
  | .exit id, s => some (.e id, s)
  | .ret, s => some (.r, s)

noncomputable def den (Γ : Nat → Option AF) : Call := fun f args h bs =>
  open Classical in if h : ∃ k r, callF Γ k f args h bs = some r then some (Classical.choose (Classical.choose_spec h)) else none
end AM

namespace AM
open Go

def LeC (c1 c2 : Call) : Prop := ∀ f a h b r, c1 f a h b = some r → c2 f a h b = some r

theorem evOp_le {c1 c2 : Call} (hc : LeC c1 c2) {σ : Nat → SV} {bx : BX} {h : Heap} {d : Nat} {op : Op} {r} (hr : evOp c1 σ bx h d op = some r) : evOp c2 σ bx h d op = some r := by
  cases op <;> try exact hr
  all_goals
    simp only [evOp] at hr ⊢
    split at hr
    · split at hr
      · rename_i hcall
        rw [hc _ _ _ _ _ hcall]
        exact hr
      · cases hr
    · cases hr
theorem evLend_le {c1 c2 : Call} (hc : LeC c1 c2) {s : St} {d f n : Nat} {as : List Opd} {r} (hr : evLend c1 s d f n as = some r) : evLend c2 s d f n as = some r := by
  unfold evLend at hr ⊢
  split at hr
  · split at hr
    · rename_i hcall
      rw [hc _ _ _ _ _ hcall]
      exact hr
    · cases hr
  · cases hr

theorem exec_le {c1 c2 : Call} (hc : LeC c1 c2) {o : Oper} {s r : St} (hr : exec c1 o s = some r) : exec c2 o s = some r := by
  unfold exec at hr ⊢
  split at hr
  · exact hr
  · exact hr
  · exact hr
  · split at hr
    · exact evLend_le hc hr
    · cases hr
  · split at hr
    · split at hr
      · rename_i h1
        rw [evOp_le hc h1]
        exact hr
      · cases hr
    · cases hr

theorem execG_le {c1 c2 : Call} (hc : LeC c1 c2) {o : Oper} {s r : St} (hr : execG c1 o s = some r) : execG c2 o s = some r := by
  unfold execG at hr ⊢
  split at hr
  · exact exec_le hc hr
  · split at hr
    · split at hr
      · rename_i hb
        rw [if_pos hb]; exact exec_le hc hr
      · rename_i hb
        rw [if_neg hb]; exact hr
    · exact hr
    · cases hr

theorem runOps_le {c1 c2 : Call} (hc : LeC c1 c2) : ∀ {ops : List Oper} {s r : St}, runOps c1 ops s = some r → runOps c2 ops s = some r
  | [], _, _, h => h
  | o :: os, s, r, h => by
    unfold runOps at h ⊢
    split at h
    · rename_i h1
      rw [execG_le hc h1]
      exact runOps_le hc h
    · cases h

theorem iter_body_le {nb : Nat} {b1 b2 : St → Option (X × St)} (hb : ∀ s r, b1 s = some r → b2 s = some r) {live : List Nat} : ∀ {n : Nat} {s : St} {r}, iter nb b1 live n s = some r → iter nb b2 live n s = some r
  | 0, _, _, h => by simp [iter] at h
  | n + 1, s, r, h => by
    unfold iter at h ⊢
    rcases e : b1 (canon nb live s) with _ | ⟨x, s1⟩
    · simp only [e] at h; cases h
    · simp only [e] at h
      simp only [hb _ _ e]
      cases x with
      | n => simp only at h ⊢; exact iter_body_le hb h
      | e j => exact h
      | r => exact h

theorem run_le {c1 c2 : Call} (hc : LeC c1 c2) {nb k1 k2 : Nat} (hk : k1 ≤ k2) : ∀ {c : AC} {s : St} {r}, run c1 nb k1 c s = some r → run c2 nb k2 c s = some r
  | .skip, _, _, h => h
  | .reg _ ops, s, r, h => by
    unfold run at h ⊢
    split at h
    · rename_i h1; rw [runOps_le hc h1]; exact h
    · cases h
  | .seq a b, s, r, h => by
    unfold run at h ⊢
    rcases e : run c1 nb k1 a s with _ | ⟨x, s1⟩
    · simp only [e] at h; cases h
    · simp only [e] at h
      simp only [run_le hc hk e]
      cases x with
      | n => exact run_le hc hk h
      | e j => exact h
      | r => exact h
  | .cond c x y, s, r, h => by
    unfold run at h ⊢
    split at h
    · split at h
      · rename_i hb; simp only [hb, if_true]; exact run_le hc hk h
      · rename_i hb; simp only [hb, if_false]; exact run_le hc hk h
    · cases h
  | .block id b, s, r, h => by
    unfold run at h ⊢
    rcases e : run c1 nb k1 b s with _ | ⟨x, s1⟩
    · simp only [e] at h; cases h
    · simp only [e] at h
      simp only [run_le hc hk e]
      exact h
  | .loop live b, s, r, h => by
    unfold run at h ⊢
    exact iter_le (iter_body_le (fun s r hr => run_le hc hk hr) h) hk
  | .exit _, _, _, h => h
  | .ret, _, _, h => h

theorem callF_succ (Γ : Nat → Option AF) : ∀ k, LeC (callF Γ k) (callF Γ (k + 1))
  | 0 => fun f a h b r hr => by simp [callF] at hr
  | k + 1 => fun f a h b r hr => by
    have ih := callF_succ Γ k
    unfold callF at hr ⊢
    split at hr
    · cases hr
    · rename_i af haf
      rcases e : run (callF Γ k) b.length k af.code ⟨fun i => a.getD i .u, fun id => if id.1 = 0 then b[id.2]? else none, h⟩ with _ | ⟨x, s1⟩
      · simp only [e] at hr; cases hr
      · simp only [e] at hr
        simp only [run_le ih (Nat.le_succ k) e]
        exact hr
theorem callF_le (Γ : Nat → Option AF) {k m : Nat} (h : k ≤ m) : LeC (callF Γ k) (callF Γ m) := by
  induction m with
  | zero => obtain rfl : k = 0 := by omega
            exact fun _ _ _ _ _ h => h
  | succ m ih =>
    by_cases e : k = m + 1
    · subst e; exact fun _ _ _ _ _ h => h
    · exact fun f a h b r hr => callF_succ Γ m f a h b r (ih (by omega) f a h b r hr)

theorem den_some {Γ : Nat → Option AF} {f : Nat} {a : List SV} {h : Heap} {b : List (List SV)} {r} : den Γ f a h b = some r ↔ ∃ k, callF Γ k f a h b = some r := by
  unfold den
  constructor
  · intro hd
    split at hd
    · rename_i hx
      obtain rfl := Option.some.inj hd
      exact ⟨_, Classical.choose_spec (Classical.choose_spec hx)⟩
    · cases hd
  · rintro ⟨n, hn⟩
    have hx : ∃ k r, callF Γ k f a h b = some r := ⟨n, r, hn⟩
    rw [dif_pos hx]
    have h2 := Classical.choose_spec (Classical.choose_spec hx)
    have p := callF_le Γ (Nat.le_max_left _ n) _ _ _ _ _ h2
    have q := callF_le Γ (Nat.le_max_right (Classical.choose hx) n) _ _ _ _ _ hn
    rw [← p, ← q]

theorem evOp_den {Γ : Nat → Option AF} {σ : Nat → SV} {bx : BX} {h : Heap} {d : Nat} {op : Op} {r} (hr : evOp (den Γ) σ bx h d op = some r) : ∃ k, evOp (callF Γ k) σ bx h d op = some r := by
  cases op <;> try exact ⟨0, hr⟩
  all_goals
    simp only [evOp] at hr ⊢
    split at hr
    · split at hr
      · rename_i hcall
        obtain ⟨k, hk⟩ := den_some.1 hcall
        exact ⟨k, by rw [hk]; exact hr⟩
      · cases hr
    · cases hr
theorem evLend_den {Γ : Nat → Option AF} {s : St} {d f n : Nat} {as : List Opd} {r} (hr : evLend (den Γ) s d f n as = some r) : ∃ k, evLend (callF Γ k) s d f n as = some r := by
  unfold evLend at hr ⊢
  split at hr
  · split at hr
    · rename_i hcall
      obtain ⟨k, hk⟩ := den_some.1 hcall
      exact ⟨k, by rw [hk]; exact hr⟩
    · cases hr
  · cases hr
theorem exec_den {Γ : Nat → Option AF} {o : Oper} {s r : St} (hr : exec (den Γ) o s = some r) : ∃ k, exec (callF Γ k) o s = some r := by
  unfold exec at hr ⊢
  split at hr
  · exact ⟨0, hr⟩
  · exact ⟨0, hr⟩
  · exact ⟨0, hr⟩
  · split at hr
    · exact evLend_den hr
    · cases hr
  · split at hr
    · split at hr
      · rename_i h1
        obtain ⟨k, hk⟩ := evOp_den h1
        exact ⟨k, by rw [hk]; exact hr⟩
      · cases hr
    · cases hr
theorem execG_den {Γ : Nat → Option AF} {o : Oper} {s r : St} (hr : execG (den Γ) o s = some r) : ∃ k, execG (callF Γ k) o s = some r := by
  unfold execG at hr ⊢
  split at hr
  · exact exec_den hr
  · split at hr
    · split at hr
      · rename_i hb
        obtain ⟨k, hk⟩ := exec_den hr
        exact ⟨k, by rw [if_pos hb]; exact hk⟩
      · rename_i hb
        exact ⟨0, by rw [if_neg hb]; exact hr⟩
    · exact ⟨0, hr⟩
    · cases hr
theorem runOps_den {Γ : Nat → Option AF} : ∀ {ops : List Oper} {s r : St}, runOps (den Γ) ops s = some r → ∃ k, runOps (callF Γ k) ops s = some r
  | [], _, _, h => ⟨0, h⟩
  | o :: os, s, r, h => by
    unfold runOps at h
    split at h
    · rename_i h1
      obtain ⟨k1, hk1⟩ := execG_den h1
      obtain ⟨k2, hk2⟩ := runOps_den h
      refine ⟨max k1 k2, ?_⟩
      unfold runOps
      rw [execG_le (callF_le Γ (Nat.le_max_left k1 k2)) hk1]
      exact runOps_le (callF_le Γ (Nat.le_max_right k1 k2)) hk2
    · cases h

theorem run_den {Γ : Nat → Option AF} {nb : Nat} : ∀ {c : AC} {s : St} {r}, drun (den Γ) nb c s = some r → ∃ k, run (callF Γ k) nb k c s = some r
  | .skip, _, _, h => ⟨0, h⟩
  | .reg _ ops, s, r, h => by
    unfold drun at h
    split at h
    · rename_i h1
      obtain ⟨k, hk⟩ := runOps_den h1
      exact ⟨k, by unfold run; rw [hk]; exact h⟩
    · cases h
  | .seq a b, s, r, h => by
    unfold drun at h
    rcases e : drun (den Γ) nb a s with _ | ⟨x, s1⟩
    · simp only [e] at h; cases h
    · simp only [e] at h
      obtain ⟨k1, hk1⟩ := run_den e
      cases x with
      | n =>
        obtain ⟨k2, hk2⟩ := run_den h
        refine ⟨max k1 k2, ?_⟩
        unfold run
        rw [run_le (callF_le Γ (Nat.le_max_left k1 k2)) (Nat.le_max_left k1 k2) hk1]
        exact run_le (callF_le Γ (Nat.le_max_right k1 k2)) (Nat.le_max_right k1 k2) hk2
      | e j => exact ⟨k1, by unfold run; rw [hk1]; exact h⟩
      | r => exact ⟨k1, by unfold run; rw [hk1]; exact h⟩
  | .cond c x y, s, r, h => by
    unfold drun at h
    split at h
    · rename_i b hb
      split at h
      · rename_i ht
        obtain ⟨k, hk⟩ := run_den h
        exact ⟨k, by unfold run; simp only [hb, ht, if_true]; exact hk⟩
      · rename_i ht
        obtain ⟨k, hk⟩ := run_den h
        exact ⟨k, by unfold run; simp only [hb, ht]; exact hk⟩
    · cases h
  | .block id b, s, r, h => by
    unfold drun at h
    rcases e : drun (den Γ) nb b s with _ | ⟨x, s1⟩
    · simp only [e] at h; cases h
    · simp only [e] at h
      obtain ⟨k1, hk1⟩ := run_den e
      exact ⟨k1, by unfold run; simp only [hk1]; exact h⟩
  | .loop live b, s, r, h => by
    unfold drun at h
    obtain ⟨n, hn⟩ := iterL_some.1 h
    suffices H : ∀ n s, iter nb (drun (den Γ) nb b) live n s = some r → ∃ k, ∀ m, k ≤ m → iter nb (run (callF Γ m) nb m b) live m s = some r by
      obtain ⟨k, hk⟩ := H n s hn
      exact ⟨k, hk k (Nat.le_refl _)⟩
    suffices H : ∀ n s, iter nb (drun (den Γ) nb b) live n s = some r → ∃ k, ∀ m, k ≤ m → ∀ j, n ≤ j → iter nb (run (callF Γ m) nb m b) live j s = some r by
      intro n s h
      obtain ⟨k, hk⟩ := H n s h
      exact ⟨max k n, fun m hm => hk m (by omega) m (by omega)⟩
    intro n
    induction n with
    | zero => intro s h; simp [iter] at h
    | succ n ih =>
      intro s h
      unfold iter at h
      rcases e : drun (den Γ) nb b (canon nb live s) with _ | ⟨x, s1⟩
      · simp only [e] at h; cases h
      · simp only [e] at h
        obtain ⟨k1, hk1⟩ := run_den e
        have hk1' : ∀ m, k1 ≤ m → run (callF Γ m) nb m b (canon nb live s) = some (x, s1) := fun m hm => run_le (callF_le Γ hm) hm hk1
        cases x with
        | n =>
          obtain ⟨k2, hk2⟩ := ih s1 h
          refine ⟨max k1 k2, fun m hm j hj => ?_⟩
          obtain ⟨j, rfl⟩ : ∃ i, j = i + 1 := ⟨j - 1, by omega⟩
          unfold iter
          rw [hk1' m (by omega)]
          exact hk2 m (by omega) j (by omega)
        | e i =>
          refine ⟨k1, fun m hm j hj => ?_⟩
          obtain ⟨j, rfl⟩ : ∃ i, j = i + 1 := ⟨j - 1, by omega⟩
          unfold iter
          rw [hk1' m (by omega)]
          exact h
        | r =>
          refine ⟨k1, fun m hm j hj => ?_⟩
          obtain ⟨j, rfl⟩ : ∃ i, j = i + 1 := ⟨j - 1, by omega⟩
          unfold iter
          rw [hk1' m (by omega)]
          exact h
  | .exit _, _, _, h => ⟨0, h⟩
  | .ret, _, _, h => ⟨0, h⟩

/-- What a call comes to, by its code alone. -/
theorem den_of {Γ : Nat → Option AF} {f : Nat} {a : List SV} {h : Heap} {b : List (List SV)} {af : AF} {x : X} {s : St} {r}
    (hf : Γ f = some af) (hrun : drun (den Γ) b.length af.code ⟨fun i => a.getD i .u, fun id => if id.1 = 0 then b[id.2]? else none, h⟩ = some (x, s))
    (hx : x = .n ∨ x = .r) (hr : fin b.length af.res s = some r) : den Γ f a h b = some r := by
  obtain ⟨k, hk⟩ := run_den hrun
  refine den_some.2 ⟨k + 1, ?_⟩
  unfold callF
  simp only [hf, hk]
  rcases hx with rfl | rfl <;> exact hr
end AM

namespace AM
open Go

abbrev FS := Nat → Prop
/-- A value of one cell. -/
abbrev oc (v : Value) : Bool := v.oneCell'

/-- Trees over cells, with the blocks that are theirs alone. -/
inductive CR (w : World) (F : FS) : List T → List Value → List Nat → Prop
  | nil : CR w F [] [] []
  | u {ts : List T} {vs : List Value} {B : List Nat} (v : Value) : oc v = true → CR w F ts vs B → CR w F (.u :: ts) (v :: vs) B
  | v {ts : List T} {vs : List Value} {B : List Nat} (x : Value) : oc x = true → CR w F ts vs B → CR w F (.v x :: ts) (x :: vs) B
  | imm0 {ts : List T} {vs : List Value} {B : List Nat} {sz cap : Nat} {a : Option Addr} : CR w F ts vs B → CR w F (.l false sz [] :: ts) (.slice a 0 cap :: vs) B
  | imm {ts : List T} {vs ws : List Value} {B : List Nat} {sz cap : Nat} {rows : List (List T)} {ad : Addr} : F ad.block → ad.spot = none → (∀ r ∈ rows, r.length = sz) → rows.length ≤ cap →
      (∀ j x, ws[j]? = some x → w.cell? ⟨ad.block, ad.off + j, none⟩ = some x) → CR w F rows.flatten ws [] → CR w F ts vs B → CR w F (.l false sz rows :: ts) (.slice (some ad) rows.length cap :: vs) B
  | own0 {ts : List T} {vs : List Value} {B : List Nat} {sz : Nat} {a : Option Addr} : CR w F ts vs B → CR w F (.l true sz [] :: ts) (.slice a 0 0 :: vs) B
  | own {ts : List T} {vs : List Value} {B1 B2 : List Nat} {sz cap b : Nat} {rows : List (List T)} {arr : Array Value} {el : TypeId} : w.heap[b]? = some (.cells arr el (0, 0)) → (∀ r ∈ rows, r.length = sz) → rows.length ≤ cap →
      arr.size = cap * sz → CR w F rows.flatten (arr.toList.take (rows.length * sz)) B1 → CR w F ts vs B2 → CR w F (.l true sz rows :: ts) (.slice (some ⟨b, 0, none⟩) rows.length cap :: vs) (b :: (B1 ++ B2))

theorem flatten_len {α : Type} {sz : Nat} {rows : List (List α)} (h : ∀ r ∈ rows, r.length = sz) : rows.flatten.length = rows.length * sz := by
  induction rows with
  | nil => simp
  | cons r rs ih =>
    rw [List.flatten_cons, List.length_append, ih (fun x hx => h x (List.mem_cons_of_mem _ hx)), h r List.mem_cons_self, List.length_cons, Nat.succ_mul]
    omega
theorem fzLL_len : ∀ rows : List (List T), (fzLL rows).length = rows.length
  | [] => rfl
  | r :: rs => by simp only [fzLL, List.length_cons, fzLL_len rs]
theorem fzL_len : ∀ ts : List T, (fzL ts).length = ts.length
  | [] => rfl
  | r :: rs => by simp only [fzL, List.length_cons, fzL_len rs]
theorem fzL_append : ∀ a b : List T, fzL (a ++ b) = fzL a ++ fzL b
  | [], b => rfl
  | x :: a, b => by simp only [List.cons_append, fzL, fzL_append a b]
theorem fzLL_flatten : ∀ rows : List (List T), (fzLL rows).flatten = fzL rows.flatten
  | [] => rfl
  | r :: rs => by simp only [fzLL, List.flatten_cons, fzL_append, fzLL_flatten rs]
theorem fzLL_uni {sz : Nat} : ∀ {rows : List (List T)}, (∀ r ∈ rows, r.length = sz) → ∀ r ∈ fzLL rows, r.length = sz
  | [], _, r, hr => by simp [fzLL] at hr
  | x :: rs, h, r, hr => by
    simp only [fzLL, List.mem_cons] at hr
    rcases hr with rfl | hr
    · rw [fzL_len]; exact h x List.mem_cons_self
    · exact fzLL_uni (fun y hy => h y (List.mem_cons_of_mem _ hy)) r hr

section
variable {w w' : World} {F F' : FS}

theorem CR.len {ts : List T} {vs : List Value} {B : List Nat} (h : CR w F ts vs B) : ts.length = vs.length := by
  induction h with
  | nil => rfl
  | u _ _ _ ih => simp [ih]
  | v _ _ _ ih => simp [ih]
  | imm0 _ ih => simp [ih]
  | imm _ _ _ _ _ _ _ _ ih => simp [ih]
  | own0 _ ih => simp [ih]
  | own _ _ _ _ _ _ _ ih => simp [ih]

theorem CR.append {t1 : List T} {v1 : List Value} {B1 : List Nat} (h : CR w F t1 v1 B1) {t2 : List T} {v2 : List Value} {B2 : List Nat} (h2 : CR w F t2 v2 B2) : CR w F (t1 ++ t2) (v1 ++ v2) (B1 ++ B2) := by
  induction h with
  | nil => exact h2
  | u v o _ ih => exact .u v o ih
  | v x o _ ih => exact .v x o ih
  | imm0 _ ih => exact .imm0 ih
  | imm a b c d e f _ _ ih => exact .imm a b c d e f ih
  | own0 _ ih => exact .own0 ih
  | own a b c d e _ _ ih =>
    have := CR.own a b c d e ih
    simpa [List.append_assoc] using this

theorem CR.split {t1 t2 : List T} : ∀ {vs : List Value} {B : List Nat}, CR w F (t1 ++ t2) vs B → ∃ v1 v2 B1 B2, vs = v1 ++ v2 ∧ B = B1 ++ B2 ∧ CR w F t1 v1 B1 ∧ CR w F t2 v2 B2 := by
  induction t1 with
  | nil => intro vs B h; exact ⟨[], vs, [], B, rfl, rfl, .nil, h⟩
  | cons t t1 ih =>
    intro vs B h
    rw [List.cons_append] at h
    cases h with
    | u v o h => obtain ⟨v1, v2, B1, B2, rfl, rfl, a, b⟩ := ih h; exact ⟨v :: v1, v2, B1, B2, rfl, rfl, .u v o a, b⟩
    | v v o h => obtain ⟨v1, v2, B1, B2, rfl, rfl, a, b⟩ := ih h; exact ⟨v :: v1, v2, B1, B2, rfl, rfl, .v v o a, b⟩
    | imm0 h => obtain ⟨v1, v2, B1, B2, rfl, rfl, a, b⟩ := ih h; exact ⟨_ :: v1, v2, B1, B2, rfl, rfl, .imm0 a, b⟩
    | imm c d e f g i h => obtain ⟨v1, v2, B1, B2, rfl, rfl, a, b⟩ := ih h; exact ⟨_ :: v1, v2, B1, B2, rfl, rfl, .imm c d e f g i a, b⟩
    | own0 h => obtain ⟨v1, v2, B1, B2, rfl, rfl, a, b⟩ := ih h; exact ⟨_ :: v1, v2, B1, B2, rfl, rfl, .own0 a, b⟩
    | own c d e f g h =>
      obtain ⟨v1, v2, B1, B2, rfl, rfl, a, b⟩ := ih h
      exact ⟨_ :: v1, v2, _ :: (_ ++ B1), B2, rfl, by simp, .own c d e f g a, b⟩

/-- What agrees on the blocks that matter. -/
theorem CR.frame {ts : List T} {vs : List Value} {B : List Nat} (h : CR w F ts vs B) (hB : ∀ b ∈ B, w'.heap[b]? = w.heap[b]?)
    (hF : ∀ a x, F a.block → w.cell? a = some x → w'.cell? a = some x) (hFF : ∀ b, F b → F' b) : CR w' F' ts vs B := by
  induction h with
  | nil => exact .nil
  | u v o _ ih => exact .u v o (ih hB)
  | v x o _ ih => exact .v x o (ih hB)
  | imm0 _ ih => exact .imm0 (ih hB)
  | imm a b c d e _ _ ih1 ih2 => exact .imm (hFF _ a) b c d (fun j x hx => hF _ _ a (e j x hx)) (ih1 (by simp)) (ih2 hB)
  | own0 _ ih => exact .own0 (ih hB)
  | own a b c d _ _ ih1 ih2 =>
    exact .own (by rw [hB _ List.mem_cons_self]; exact a) b c d (ih1 fun x hx => hB x (by simp [hx])) (ih2 fun x hx => hB x (by simp [hx]))

theorem CR.blocks {ts : List T} {vs : List Value} {B : List Nat} (h : CR w F ts vs B) : ∀ b ∈ B, ∃ arr el, w.heap[b]? = some (.cells arr el (0, 0)) := by
  induction h with
  | nil => intro b hb; cases hb
  | u v _ _ ih => exact ih
  | v x _ _ ih => exact ih
  | imm0 _ ih => exact ih
  | imm _ _ _ _ _ _ _ _ ih => exact ih
  | own0 _ ih => exact ih
  | own a _ _ _ _ _ ih1 ih2 =>
    intro x hx
    rcases List.mem_cons.1 hx with rfl | hx
    · exact ⟨_, _, a⟩
    · rcases List.mem_append.1 hx with hx | hx
      · exact ih1 x hx
      · exact ih2 x hx

theorem CR.oc {ts : List T} {vs : List Value} {B : List Nat} (h : CR w F ts vs B) : ∀ v ∈ vs, oc v = true := by
  induction h with
  | nil => intro v hv; cases hv
  | u v o _ ih => intro y hy; rcases List.mem_cons.1 hy with rfl | hy; exact o; exact ih y hy
  | v x o _ ih => intro y hy; rcases List.mem_cons.1 hy with rfl | hy; exact o; exact ih y hy
  | imm0 _ ih => intro y hy; rcases List.mem_cons.1 hy with rfl | hy; rfl; exact ih y hy
  | imm _ _ _ _ _ _ _ _ ih => intro y hy; rcases List.mem_cons.1 hy with rfl | hy; rfl; exact ih y hy
  | own0 _ ih => intro y hy; rcases List.mem_cons.1 hy with rfl | hy; rfl; exact ih y hy
  | own _ _ _ _ _ _ _ ih => intro y hy; rcases List.mem_cons.1 hy with rfl | hy; rfl; exact ih y hy
theorem CR.lt {ts : List T} {vs : List Value} {B : List Nat} (h : CR w F ts vs B) : ∀ b ∈ B, b < w.heap.size := by
  intro b hb
  obtain ⟨arr, el, h⟩ := h.blocks b hb
  rcases Nat.lt_or_ge b w.heap.size with hl | hl
  · exact hl
  · rw [Array.getElem?_eq_none hl] at h; cases h

theorem cell_of {w : World} {b : Nat} {arr : Array Value} {el : TypeId} {fr : Nat × Nat} (h : w.heap[b]? = some (.cells arr el fr)) (j : Nat) : w.cell? ⟨b, j, none⟩ = arr[j]? := by
  simp [World.cell?, h]

theorem CR.freeze {ts : List T} {vs : List Value} {B : List Nat} (h : CR w F ts vs B) (hFF : ∀ b, F b → F' b) (hB : ∀ b ∈ B, F' b) : CR w F' (fzL ts) vs [] := by
  induction h with
  | nil => exact .nil
  | u v o _ ih => exact .u v o (ih hB)
  | v x o _ ih => exact .v x o (ih hB)
  | imm0 _ ih => exact .imm0 (ih hB)
  | @imm ts vs ws B sz cap rows ad a b c d e _ _ ih1 ih2 =>
    have h1 := ih1 (by simp)
    rw [← fzLL_flatten] at h1
    have := CR.imm (hFF _ a) b (fzLL_uni c) (by rw [fzLL_len]; exact d) e h1 (ih2 hB)
    rw [fzLL_len] at this
    exact this
  | own0 _ ih => exact .imm0 (ih hB)
  | @own ts vs B1 B2 sz cap b rows arr el a c d e _ _ ih1 ih2 =>
    have h1 := ih1 fun x hx => hB x (by simp [hx])
    rw [← fzLL_flatten] at h1
    have := CR.imm (ad := ⟨b, 0, none⟩) (hB b List.mem_cons_self) rfl (fzLL_uni c) (by rw [fzLL_len]; exact d) (fun j x hx => by
      rw [Nat.zero_add, cell_of a]
      rw [List.getElem?_take] at hx
      split at hx
      · rw [Array.getElem?_toList] at hx; exact hx
      · cases hx) h1 (ih2 fun x hx => hB x (by simp [hx]))
    rw [fzLL_len] at this
    exact this

theorem immL_append : ∀ a b : List T, immL (a ++ b) = (immL a && immL b)
  | [], b => by simp [immL]
  | x :: a, b => by simp [immL, immL_append a b, Bool.and_assoc]
theorem ownL_append : ∀ a b : List T, ownL (a ++ b) = (ownL a && ownL b)
  | [], b => by simp [ownL]
  | x :: a, b => by simp [ownL, ownL_append a b, Bool.and_assoc]
theorem ownLL_flatten : ∀ rows : List (List T), ownLL rows = ownL rows.flatten
  | [] => rfl
  | r :: rs => by simp only [ownLL, List.flatten_cons, ownL_append, ownLL_flatten rs]
theorem immLL_flatten : ∀ rows : List (List T), immLL rows = immL rows.flatten
  | [] => rfl
  | r :: rs => by simp only [immLL, List.flatten_cons, immL_append, immLL_flatten rs]

theorem CR.immB {ts : List T} {vs : List Value} {B : List Nat} (h : CR w F ts vs B) (hi : immL ts = true) : B = [] := by
  induction h with
  | nil => rfl
  | u v _ _ ih => exact ih (by simpa [immL, T.imm] using hi)
  | v x _ _ ih => exact ih (by simpa [immL, T.imm] using hi)
  | imm0 _ ih => exact ih (by simp [immL] at hi; exact hi.2)
  | imm _ _ _ _ _ _ _ _ ih => exact ih (by simp [immL] at hi; exact hi.2)
  | own0 _ ih => exact ih (by simp [immL] at hi; exact hi.2)
  | own _ _ _ _ _ _ _ ih => simp [immL, T.imm] at hi

theorem CR.ownF {ts : List T} {vs : List Value} {B : List Nat} (h : CR w F ts vs B) (ho : ownL ts = true) : CR w F' ts vs B := by
  induction h with
  | nil => exact .nil
  | u v o _ ih => exact .u v o (ih (by simpa [ownL, T.own] using ho))
  | v x o _ ih => exact .v x o (ih (by simpa [ownL, T.own] using ho))
  | imm0 _ ih => simp [ownL, T.own] at ho
  | imm _ _ _ _ _ _ _ _ ih => simp [ownL, T.own] at ho
  | own0 _ ih => exact .own0 (ih (by simp [ownL] at ho; exact ho.2))
  | own a b c d _ _ ih1 ih2 =>
    simp only [ownL, T.own, Bool.true_and, Bool.and_eq_true] at ho
    exact .own a b c d (ih1 (by rw [← ownLL_flatten]; exact ho.1)) (ih2 ho.2)

/-- One list of a row of cells. -/
theorem CR.single {t : T} {v : Value} {B : List Nat} (h : CR w F [t] [v] B) {ts : List T} {vs : List Value} {B2 : List Nat} (h2 : CR w F ts vs B2) : CR w F (t :: ts) (v :: vs) (B ++ B2) := h.append h2
theorem CR.uncons {t : T} {ts : List T} {vs : List Value} {B : List Nat} (h : CR w F (t :: ts) vs B) : ∃ v vs' B1 B2, vs = v :: vs' ∧ B = B1 ++ B2 ∧ CR w F [t] [v] B1 ∧ CR w F ts vs' B2 := by
  obtain ⟨v1, v2, B1, B2, rfl, rfl, a, b⟩ := CR.split (t1 := [t]) h
  have := a.len
  match v1, this with
  | [y], _ => exact ⟨y, v2, B1, B2, rfl, rfl, a, b⟩
end

/-! ### Places -/
def blkOf : Value → Option Nat
  | .slice (some ⟨b, 0, none⟩) _ _ => some b
  | _ => none
def hdr (w : World) : Value → T → Path → Option Value
  | hv, _, [] => some hv
  | hv, .l true sz rows, (i, f) :: p => (blkOf hv).bind fun b => rows[i]?.bind fun row => row[f]?.bind fun t => (w.cell? ⟨b, i * sz + f, none⟩).bind fun hv' => hdr w hv' t p
  | _, _, _ :: _ => none

theorem at_parts {sz i f : Nat} {rows : List (List T)} {row : List T} {t : T} (hu : ∀ r ∈ rows, r.length = sz) (hi : rows[i]? = some row) (hf : row[f]? = some t) :
    ∃ L R, rows.flatten = L ++ t :: R ∧ L.length = i * sz + f ∧ ∀ g : T → T, (rows.modify i fun r => r.modify f g).flatten = L ++ g t :: R := by
  induction rows generalizing i with
  | nil => simp at hi
  | cons r rs ih =>
    cases i with
    | zero =>
      simp only [List.getElem?_cons_zero, Option.some.injEq] at hi
      subst hi
      have hlt : f < r.length := (List.getElem?_eq_some_iff.1 hf).1
      have hg : r[f] = t := (List.getElem?_eq_some_iff.1 hf).2
      refine ⟨r.take f, r.drop (f + 1) ++ rs.flatten, ?_, ?_, fun g => ?_⟩
      · have : r = r.take f ++ t :: r.drop (f + 1) := by rw [← hg, List.getElem_cons_drop, List.take_append_drop]
        rw [List.flatten_cons]
        conv => lhs; rw [this]
        simp
      · rw [List.length_take]; omega
      · rw [List.modify_zero_cons, List.flatten_cons]
        have : r.modify f g = r.take f ++ g t :: r.drop (f + 1) := by
          rw [List.modify_eq_take_cons_drop hlt, hg]
        rw [this]; simp
    | succ i =>
      simp only [List.getElem?_cons_succ] at hi
      obtain ⟨L, R, h1, h2, h3⟩ := ih (fun x hx => hu x (List.mem_cons_of_mem _ hx)) hi
      refine ⟨r ++ L, R, ?_, ?_, fun g => ?_⟩
      · rw [List.flatten_cons, h1]; simp
      · rw [List.length_append, h2, hu r List.mem_cons_self, Nat.succ_mul]; omega
      · rw [List.modify_succ_cons, List.flatten_cons, h3]; simp

theorem modify_uni {sz i f : Nat} {rows : List (List T)} (g : T → T) (hu : ∀ r ∈ rows, r.length = sz) : ∀ r ∈ rows.modify i fun r => r.modify f g, r.length = sz := by
  induction rows generalizing i with
  | nil => simp
  | cons r rs ih =>
    cases i with
    | zero =>
      rw [List.modify_zero_cons]
      intro x hx
      rcases List.mem_cons.1 hx with rfl | hx
      · rw [List.length_modify]; exact hu r List.mem_cons_self
      · exact hu x (List.mem_cons_of_mem _ hx)
    | succ i =>
      rw [List.modify_succ_cons]
      intro x hx
      rcases List.mem_cons.1 hx with rfl | hx
      · exact hu _ List.mem_cons_self
      · exact ih (fun y hy => hu y (List.mem_cons_of_mem _ hy)) x hx

theorem CR.focus {w : World} {F : FS} {p : Path} : ∀ {t : T} {hv : Value} {B : List Nat} {ts : T}, CR w F [t] [hv] B → t.at p = some ts →
    ∃ hs X Bs Y, hdr w hv t p = some hs ∧ B = X ++ Bs ++ Y ∧ CR w F [ts] [hs] Bs ∧
      ∀ (w' : World) (F' : FS) (t' : T) (B' : List Nat), (∀ b ∈ X ++ Y, w'.heap[b]? = w.heap[b]?) → (∀ a x, F a.block → w.cell? a = some x → w'.cell? a = some x) → (∀ b, F b → F' b) → CR w' F' [t'] [hs] B' →
        CR w' F' [t.set p t'] [hv] (X ++ B' ++ Y) ∧ ∀ q, q <+: p → hdr w' hv (t.set p t') q = hdr w hv t q := by
  induction p with
  | nil =>
    intro t hv B ts h hp
    simp only [T.at, Option.some.injEq] at hp
    subst hp
    refine ⟨hv, [], B, [], by simp [hdr], by simp, h, fun w' F' t' B' _ _ _ hc => ⟨by simpa [T.set] using hc, fun q hq => ?_⟩⟩
    obtain rfl : q = [] := List.prefix_nil.1 hq
    simp [hdr]
  | cons s p ih =>
    obtain ⟨i, f⟩ := s
    intro t hv B ts h hp
    match t with
    | T.u => simp [T.at] at hp
    | T.v _ => simp [T.at] at hp
    | T.l false _ _ => simp [T.at] at hp
    | T.l true sz rows =>
      simp only [T.at] at hp
      split at hp
      · rename_i row hrow
        split at hp
        · rename_i t1 ht1
          cases h with
          | own0 _ => simp at hrow
          | @own _ _ B1 B2 _ cap b _ arr el hb hu hn hsz hcells hrest =>
            cases hrest
            obtain ⟨L, R, hfl, hLl, hmod⟩ := at_parts hu hrow ht1
            rw [hfl] at hcells
            obtain ⟨vL, vR', BL, BR', hvs, rfl, hL, hR'⟩ := CR.split hcells
            obtain ⟨v1, vR, Bt, BR, rfl, rfl, ht, hR⟩ := hR'.uncons
            obtain ⟨hs, X', Bs, Y', hh, rfl, hsub, hback⟩ := ih ht hp
            have hvl : vL.length = i * sz + f := by rw [← hL.len, hLl]
            have hcell : w.cell? ⟨b, i * sz + f, none⟩ = some v1 := by
              rw [cell_of hb]
              have h1 : (arr.toList.take (rows.length * sz))[i * sz + f]? = some v1 := by rw [hvs, List.getElem?_append_right (by omega), hvl]; simp
              rw [List.getElem?_take] at h1
              split at h1
              · simpa using h1
              · cases h1
            refine ⟨hs, b :: (BL ++ X'), Bs, Y' ++ BR, ?_, by simp, hsub, fun w' F' t' B' hX hF hFF hc => ?_⟩
            · simp [hdr, blkOf, hrow, ht1, hcell]; exact hh
            · obtain ⟨hc1, hq1⟩ := hback w' F' t' B' (fun x hx => hX x (by simp at hx ⊢; rcases hx with hx | hx <;> simp [hx])) hF hFF hc
              have hb' : w'.heap[b]? = some (.cells arr el (0, 0)) := by rw [hX b (by simp)]; exact hb
              have hL' := hL.frame (w' := w') (F' := F') (fun x hx => hX x (by simp [hx])) hF hFF
              have hR'' := hR.frame (w' := w') (F' := F') (fun x hx => hX x (by simp [hx])) hF hFF
              have hcells' := hL'.append (hc1.single hR'')
              rw [← hvs, ← hmod (fun t => t.set p t')] at hcells'
              constructor
              · have hlen : (rows.modify i fun r => r.modify f fun t => t.set p t').length = rows.length := List.length_modify _ _ _
                have key := CR.own (F := F') hb' (modify_uni (i := i) (f := f) (fun t => t.set p t') hu) (by rw [hlen]; exact hn) hsz (by rw [hlen]; exact hcells') CR.nil
                rw [hlen] at key
                simp only [T.set]
                have e : b :: (BL ++ (X' ++ B' ++ Y' ++ BR) ++ []) = b :: (BL ++ X') ++ B' ++ (Y' ++ BR) := by simp
                rw [← e]
                exact key
              · intro q hq
                match q with
                | [] => simp [hdr]
                | (i', f') :: q' =>
                  obtain ⟨he, hq'⟩ := List.cons_prefix_cons.1 hq
                  injection he with he1 he2
                  subst he1 he2
                  have hcell' : w'.cell? ⟨b, i' * sz + f', none⟩ = some v1 := by
                    rw [cell_of hb', ← cell_of hb]; exact hcell
                  simp [T.set, hdr, blkOf, hrow, ht1, hcell, hcell']
                  exact hq1 q' hq'
        · cases hp
      · cases hp
end AM

namespace AM
open Go

/-- What is known of a frame's lists and boxes beside their trees: headers, blocks, owners. -/
structure Gh where
  hd : Id → Value
  bb : Id → Nat
  fp : Id → List Nat
  ow : Nat → Option (Id ⊕ Id)

/-- What a part of a slice reads as. -/
def subH (hv : Value) (sz lo n : Nat) (v : Value) : Prop :=
  match hv with
  | .slice a _ cap => lo ≤ cap ∧ n ≤ cap - lo ∧ ∃ ad, v = .slice ad n (cap - lo) ∧ (cap = lo ∨ ad = a.map (·.add (lo * sz)))
  | _ => False
/-- A slice, by its look. -/
def slLook (n : Nat) (v : Value) : Prop := ∃ a cap, v = .slice a n cap ∧ n ≤ cap ∧ (0 < n → ∃ b o, a = some ⟨b, o, none⟩)
def ptLook (v : Value) : Prop := ∃ b o, v = .pointer (some ⟨b, o, none⟩)

mutual
def SR (w : World) (F : FS) (bx : BX) (h : Heap) (g : Gh) : SV → Value → Prop
  | .u, _ => True
  | .c t, v => CR w F [t] [v] []
  | .r id p sz lo n, v => slLook n v ∧ ∃ t, h id = some t ∧ ∀ rows, t.at p = some (.l true sz rows) → ∃ hv, hdr w (g.hd id) t p = some hv ∧ subH hv sz lo n v
  | .p id p sz i f, v => ptLook v ∧ ∃ t, h id = some t ∧ ∀ rows, t.at p = some (.l true sz rows) → i < rows.length → ∃ b n cap, hdr w (g.hd id) t p = some (.slice (some ⟨b, 0, none⟩) n cap) ∧ v = .pointer (some ⟨b, i * sz + f, none⟩)
  | .b id f, v => (∃ cs, bx id = some cs) ∧ v = .pointer (some ⟨g.bb id, f, none⟩)
  | .q row f, v => ∃ (ad : Addr) (ws : List Value), F ad.block ∧ ad.spot = none ∧ v = .pointer (some ⟨ad.block, ad.off + f, none⟩) ∧ (∀ j x, ws[j]? = some x → w.cell? ⟨ad.block, ad.off + j, none⟩ = some x) ∧ CR w F row ws []
  | .a cs, v => ∃ arr : Array Value, v = .agg arr ∧ (∀ x ∈ arr.toList, oc x = true) ∧ SRL w F bx h g cs arr.toList
  | .t vs, v => ∃ arr : Array Value, v = .tuple arr ∧ SRL w F bx h g vs arr.toList
def SRL (w : World) (F : FS) (bx : BX) (h : Heap) (g : Gh) : List SV → List Value → Prop
  | [], [] => True
  | s :: ss, v :: vs => SR w F bx h g s v ∧ SRL w F bx h g ss vs
  | _, _ => False
end

section
variable {w w' : World} {F : FS} {bx bx' : BX} {h h' : Heap} {g g' : Gh}

theorem SRL.len : ∀ {ss : List SV} {vs : List Value}, SRL w F bx h g ss vs → ss.length = vs.length
  | [], [], _ => rfl
  | _ :: ss, _ :: vs, hh => by simp [SRL.len (ss := ss) (vs := vs) hh.2]
  | [], _ :: _, hh => by cases hh
  | _ :: _, [], hh => by cases hh
theorem SRL.get : ∀ {ss : List SV} {vs : List Value}, SRL w F bx h g ss vs → ∀ {j : Nat} {s : SV}, ss[j]? = some s → ∃ v, vs[j]? = some v ∧ SR w F bx h g s v
  | [], [], _, j, s, hj => by simp at hj
  | s :: ss, v :: vs, hh, 0, _, hj => by simp only [List.getElem?_cons_zero, Option.some.injEq] at hj; exact ⟨v, rfl, hj ▸ hh.1⟩
  | s :: ss, v :: vs, hh, j + 1, _, hj => by simp only [List.getElem?_cons_succ] at hj ⊢; exact SRL.get hh.2 hj
  | [], _ :: _, hh, _, _, _ => by cases hh
  | _ :: _, [], hh, _, _, _ => by cases hh
theorem SRL.append : ∀ {s1 : List SV} {v1 : List Value}, SRL w F bx h g s1 v1 → ∀ {s2 : List SV} {v2 : List Value}, SRL w F bx h g s2 v2 → SRL w F bx h g (s1 ++ s2) (v1 ++ v2)
  | [], [], _, _, _, h2 => h2
  | _ :: _, _ :: _, h1, _, _, h2 => ⟨h1.1, SRL.append h1.2 h2⟩
  | [], _ :: _, hh, _, _, _ => by cases hh
  | _ :: _, [], hh, _, _, _ => by cases hh
theorem SRL.take : ∀ {s1 : List SV} {v1 : List Value}, SRL w F bx h g s1 v1 → ∀ n, SRL w F bx h g (s1.take n) (v1.take n)
  | _, _, _, 0 => by simp [SRL]
  | [], [], _, n + 1 => by simp [SRL]
  | _ :: _, _ :: _, h1, n + 1 => ⟨h1.1, SRL.take h1.2 n⟩
  | [], _ :: _, hh, _ => by cases hh
  | _ :: _, [], hh, _ => by cases hh
theorem SRL.drop : ∀ {s1 : List SV} {v1 : List Value}, SRL w F bx h g s1 v1 → ∀ n, SRL w F bx h g (s1.drop n) (v1.drop n)
  | _, _, hh, 0 => hh
  | [], [], _, n + 1 => by simp [SRL]
  | _ :: _, _ :: _, h1, n + 1 => SRL.drop h1.2 n
  | [], _ :: _, hh, _ => by cases hh
  | _ :: _, [], hh, _ => by cases hh
/-- Cells that hold no list of the frame's. -/
theorem SRL.ofCR : ∀ {ts : List T} {vs : List Value}, CR w F ts vs [] → SRL w F bx h g (ts.map .c) vs
  | [], vs, hh => by cases hh; trivial
  | t :: ts, vs, hh => by
    obtain ⟨v, vs', B1, B2, rfl, hB, h1, h2⟩ := hh.uncons
    obtain ⟨rfl, rfl⟩ := List.append_eq_nil_iff.1 hB.symm
    exact ⟨h1, SRL.ofCR h2⟩

/-! ### From one state to another -/
mutual
/-- All that it names is kept. -/
def SV.keeps (K : Id → Path → Prop) : SV → Prop
  | .r id p _ _ _ => K id p
  | .p id p _ _ _ => K id p
  | .a cs => keepsL K cs
  | .t cs => keepsL K cs
  | _ => True
def keepsL (K : Id → Path → Prop) : List SV → Prop
  | [] => True
  | s :: ss => s.keeps K ∧ keepsL K ss
end
/-- What must hold of two states for values to be handed on. -/
structure Ext (F : FS) (K : Id → Path → Prop) (w : World) (bx : BX) (h : Heap) (g : Gh) (w' : World) (bx' : BX) (h' : Heap) (g' : Gh) : Prop where
  F : ∀ a x, F a.block → w.cell? a = some x → w'.cell? a = some x
  l : ∀ id t p, h id = some t → K id p → ∃ t', h' id = some t' ∧ ∀ sz rows', t'.at p = some (.l true sz rows') → ∃ rows, t.at p = some (.l true sz rows) ∧ rows.length = rows'.length ∧ hdr w' (g'.hd id) t' p = hdr w (g.hd id) t p
  b : ∀ id cs, bx id = some cs → (∃ cs', bx' id = some cs') ∧ g'.bb id = g.bb id
mutual
theorem SR.ext {K : Id → Path → Prop} (E : Ext F K w bx h g w' bx' h' g') : ∀ {s : SV} {v : Value}, s.keeps K → SR w F bx h g s v → SR w' F bx' h' g' s v
  | .u, _, _, _ => by simp [SR]
  | .c t, v, _, hs => by
    simp only [SR] at hs ⊢
    exact hs.frame (by simp) E.F (fun _ h => h)
  | .r id p sz lo n, v, hk, hs => by
    simp only [SR] at hs ⊢
    obtain ⟨hlk, t, ht, hs⟩ := hs
    obtain ⟨t', ht', hl⟩ := E.l id t p ht hk
    refine ⟨hlk, t', ht', fun rows' hat => ?_⟩
    obtain ⟨rows, hr, _, hh⟩ := hl sz rows' hat
    rw [hh]
    exact hs rows hr
  | .p id p sz i f, v, hk, hs => by
    simp only [SR] at hs ⊢
    obtain ⟨hlk, t, ht, hs⟩ := hs
    obtain ⟨t', ht', hl⟩ := E.l id t p ht hk
    refine ⟨hlk, t', ht', fun rows' hat hi => ?_⟩
    obtain ⟨rows, hr, hn, hh⟩ := hl sz rows' hat
    rw [hh]
    exact hs rows hr (by omega)
  | .b id f, v, _, hs => by
    simp only [SR] at hs ⊢
    obtain ⟨⟨cs, hc⟩, rfl⟩ := hs
    obtain ⟨h1, h2⟩ := E.b id cs hc
    exact ⟨h1, by rw [h2]⟩
  | .q row f, v, _, hs => by
    simp only [SR] at hs ⊢
    obtain ⟨ad, ws, h1, h2, h3, h4, h5⟩ := hs
    exact ⟨ad, ws, h1, h2, h3, fun j x hx => E.F _ _ h1 (h4 j x hx), h5.frame (by simp) E.F (fun _ h => h)⟩
  | .a cs, v, hk, hs => by
    simp only [SR] at hs ⊢
    obtain ⟨arr, h1, ho, h2⟩ := hs
    exact ⟨arr, h1, ho, SRL.ext E hk h2⟩
  | .t cs, v, hk, hs => by
    simp only [SR] at hs ⊢
    obtain ⟨arr, h1, h2⟩ := hs
    exact ⟨arr, h1, SRL.ext E hk h2⟩
theorem SRL.ext {K : Id → Path → Prop} (E : Ext F K w bx h g w' bx' h' g') : ∀ {ss : List SV} {vs : List Value}, keepsL K ss → SRL w F bx h g ss vs → SRL w' F bx' h' g' ss vs
  | [], [], _, _ => trivial
  | _ :: _, _ :: _, hk, hs => ⟨SR.ext E hk.1 hs.1, SRL.ext E hk.2 hs.2⟩
  | [], _ :: _, _, hh => by cases hh
  | _ :: _, [], _, hh => by cases hh
end
mutual
theorem keeps_true : ∀ s : SV, s.keeps fun _ _ => True
  | .u | .c _ | .b .. | .q .. => by simp [SV.keeps]
  | .r .. | .p .. => by simp [SV.keeps]
  | .a cs => by simp only [SV.keeps]; exact keepsL_true cs
  | .t cs => by simp only [SV.keeps]; exact keepsL_true cs
theorem keepsL_true : ∀ ss : List SV, keepsL (fun _ _ => True) ss
  | [] => trivial
  | s :: ss => ⟨keeps_true s, keepsL_true ss⟩
end
mutual
theorem keeps_kill (id : Id) (p : Path) : ∀ s : SV, (s.kill id p).keeps fun id' q => id' = id → q <+: p
  | .u | .c _ | .b .. | .q .. => by simp [SV.kill, SV.keeps]
  | .r id' q _ lo n => by
    simp only [SV.kill]
    split
    · simp [SV.keeps]
    · rename_i hk
      simp only [SV.keeps]
      intro he
      simp [killed, he] at hk
      exact hk
  | .p id' q _ lo n => by
    simp only [SV.kill]
    split
    · simp [SV.keeps]
    · rename_i hk
      simp only [SV.keeps]
      intro he
      simp [killed, he] at hk
      exact hk
  | .a cs => by simp only [SV.kill, SV.keeps]; exact keepsL_kill id p cs
  | .t cs => by simp only [SV.kill, SV.keeps]; exact keepsL_kill id p cs
theorem keepsL_kill (id : Id) (p : Path) : ∀ ss : List SV, keepsL (fun id' q => id' = id → q <+: p) (killL id p ss)
  | [] => trivial
  | s :: ss => ⟨keeps_kill id p s, keepsL_kill id p ss⟩
end
mutual
theorem SR.kill (id : Id) (p : Path) : ∀ {s : SV} {v : Value}, SR w F bx h g s v → SR w F bx h g (s.kill id p) v
  | .u, _, hs | .c _, _, hs | .b .., _, hs | .q .., _, hs => by simpa [SV.kill] using hs
  | .r id' q _ lo n, v, hs => by
    simp only [SV.kill]
    split
    · simp [SR]
    · exact hs
  | .p id' q _ lo n, v, hs => by
    simp only [SV.kill]
    split
    · simp [SR]
    · exact hs
  | .a cs, v, hs => by
    simp only [SV.kill, SR] at hs ⊢
    obtain ⟨arr, h1, ho, h2⟩ := hs
    exact ⟨arr, h1, ho, SRL.kill id p h2⟩
  | .t cs, v, hs => by
    simp only [SV.kill, SR] at hs ⊢
    obtain ⟨arr, h1, h2⟩ := hs
    exact ⟨arr, h1, SRL.kill id p h2⟩
theorem SRL.kill (id : Id) (p : Path) : ∀ {ss : List SV} {vs : List Value}, SRL w F bx h g ss vs → SRL w F bx h g (killL id p ss) vs
  | [], [], _ => trivial
  | _ :: _, _ :: _, hs => ⟨SR.kill id p hs.1, SRL.kill id p hs.2⟩
  | [], _ :: _, hh => by cases hh
  | _ :: _, [], hh => by cases hh
end
end

/-! ### Trees: at and set -/
theorem modify_ne {α : Type} {l : List α} {i j : Nat} {f : α → α} (h : j ≠ i) : (l.modify i f)[j]? = l[j]? := by
  rw [List.getElem?_modify]
  cases l[j]? with
  | none => rfl
  | some x => simp [Ne.symm h]
theorem set_self : ∀ {p : Path} {t ts : T}, t.at p = some ts → t.set p ts = t
  | [], t, ts, h => by simp only [T.at, Option.some.injEq] at h; subst h; simp [T.set]
  | (i, f) :: p, t, ts, h => by
    match t with
    | T.u => simp [T.at] at h
    | T.v _ => simp [T.at] at h
    | T.l false _ _ => simp [T.at] at h
    | T.l true sz rows =>
      simp only [T.at] at h
      split at h
      · rename_i row hrow
        split at h
        · rename_i t1 ht1
          have ih := set_self h
          simp only [T.set]
          congr 1
          apply List.ext_getElem?
          intro j
          rw [List.getElem?_modify]
          by_cases hj : i = j
          · subst hj
            simp only [if_pos, hrow]
            show some _ = some _
            congr 1
            apply List.ext_getElem?
            intro k
            rw [List.getElem?_modify]
            by_cases hk : f = k
            · subst hk
              simp only [if_pos, ht1]
              show some (t1.set p ts) = some _
              rw [ih]
            · simp [hk]
          · simp [hj]
        · cases h
      · cases h

/-- Behind a change at p: what is read at a place ahead of p. -/
theorem at_set_prefix : ∀ {p q : Path} {t ts t' x : T}, t.at p = some ts → q <+: p → q ≠ p → (t.set p t').at q = some x → ∃ sz rows rows', x = .l true sz rows' ∧ t.at q = some (.l true sz rows) ∧ rows.length = rows'.length
  | [], q, t, ts, t', x, _, hq, hne, _ => absurd (List.prefix_nil.1 hq) hne
  | (i, f) :: p, [], t, ts, t', x, hp, _, _, hx => by
    match t with
    | T.u => simp [T.at] at hp
    | T.v _ => simp [T.at] at hp
    | T.l false _ _ => simp [T.at] at hp
    | T.l true sz rows =>
      simp only [T.set, T.at, Option.some.injEq] at hx ⊢
      exact ⟨sz, rows, _, hx.symm, rfl, by rw [List.length_modify]⟩
  | (i, f) :: p, (i', f') :: q, t, ts, t', x, hp, hq, hne, hx => by
    obtain ⟨he, hq'⟩ := List.cons_prefix_cons.1 hq
    injection he with he1 he2
    subst he1 he2
    match t with
    | T.u => simp [T.at] at hp
    | T.v _ => simp [T.at] at hp
    | T.l false _ _ => simp [T.at] at hp
    | T.l true sz rows =>
      simp only [T.at] at hp
      split at hp
      · rename_i row hrow
        split at hp
        · rename_i t1 ht1
          simp [T.set, T.at, hrow, ht1] at hx
          obtain ⟨sz', rows', rows'', h1, h2, h3⟩ := at_set_prefix hp hq' (fun e => hne (by rw [e])) hx
          exact ⟨sz', rows', rows'', h1, by simp [T.at, hrow, ht1, h2], h3⟩
        · cases hp
      · cases hp
theorem at_set_self : ∀ {p : Path} {t ts t' : T}, t.at p = some ts → (t.set p t').at p = some t'
  | [], t, ts, t', _ => by simp [T.set, T.at]
  | (i, f) :: p, t, ts, t', hp => by
    match t with
    | T.u => simp [T.at] at hp
    | T.v _ => simp [T.at] at hp
    | T.l false _ _ => simp [T.at] at hp
    | T.l true sz rows =>
      simp only [T.at] at hp
      split at hp
      · rename_i row hrow
        split at hp
        · rename_i t1 ht1
          simp [T.set, T.at, hrow, ht1]
          exact at_set_self hp
        · cases hp
      · cases hp
/-- Behind a hole: what is still read. -/
theorem at_hole (w : World) : ∀ {p q : Path} {t ts : T} {hv : Value} {sz : Nat} {rows' : List (List T)}, t.at p = some ts → (t.set p .u).at q = some (.l true sz rows') →
    ∃ rows, t.at q = some (.l true sz rows) ∧ rows.length = rows'.length ∧ hdr w hv (t.set p .u) q = hdr w hv t q
  | [], [], t, ts, hv, sz, rows', hp, hq => by simp [T.set, T.at] at hq
  | [], (i, f) :: q, t, ts, hv, sz, rows', hp, hq => by simp [T.set, T.at] at hq
  | (i, f) :: p, [], t, ts, hv, sz, rows', hp, hq => by
    match t with
    | T.u => simp [T.at] at hp
    | T.v _ => simp [T.at] at hp
    | T.l false _ _ => simp [T.at] at hp
    | T.l true sz0 rows =>
      simp only [T.set, T.at, Option.some.injEq, T.l.injEq, true_and] at hq
      obtain ⟨rfl, rfl⟩ := hq
      exact ⟨rows, rfl, by rw [List.length_modify], by simp [hdr]⟩
  | (i, f) :: p, (i', f') :: q, t, ts, hv, sz, rows', hp, hq => by
    match t with
    | T.u => simp [T.at] at hp
    | T.v _ => simp [T.at] at hp
    | T.l false _ _ => simp [T.at] at hp
    | T.l true sz0 rows =>
      simp only [T.at] at hp
      split at hp
      · rename_i row hrow
        split at hp
        · rename_i t1 ht1
          by_cases hi : i' = i
          · subst hi
            by_cases hf : f' = f
            · subst hf
              simp [T.set, T.at, hrow, ht1] at hq
              have key := fun hv => at_hole w (hv := hv) hp hq
              obtain ⟨rows2, h1, h2, _⟩ := key hv
              refine ⟨rows2, by simp [T.at, hrow, ht1, h1], h2, ?_⟩
              simp only [T.set, hdr]
              cases blkOf hv with
              | none => rfl
              | some b =>
                simp [hrow, ht1]
                cases hc : w.cell? ⟨b, i' * sz0 + f', none⟩ with
                | none => rfl
                | some hv1 =>
                  obtain ⟨_, _, _, h3⟩ := key hv1
                  exact h3
            · simp [T.set, T.at, hrow] at hq
              rw [modify_ne hf] at hq
              refine ⟨rows', by simp [T.at, hrow]; exact hq, rfl, ?_⟩
              simp only [T.set, hdr]
              cases blkOf hv with
              | none => rfl
              | some b =>
                simp [hrow]
                rw [modify_ne hf]
          · simp only [T.set, T.at] at hq
            rw [modify_ne hi] at hq
            refine ⟨rows', by simp only [T.at]; exact hq, rfl, ?_⟩
            simp only [T.set, hdr]
            rw [modify_ne hi]
        · cases hp
      · cases hp

/-- Headers along a path lean on the tree's own blocks alone. -/
theorem hdr_frame {w w' : World} {F : FS} {t : T} {hv : Value} {B : List Nat} {p : Path} {ts : T} (hc : CR w F [t] [hv] B) (hp : t.at p = some ts) (hB : ∀ b ∈ B, w'.heap[b]? = w.heap[b]?)
    (hF : ∀ a x, F a.block → w.cell? a = some x → w'.cell? a = some x) : hdr w' hv t p = hdr w hv t p := by
  obtain ⟨hs, X, Bs, Y, _, rfl, hsub, hback⟩ := hc.focus hp
  have := (hback w' F ts Bs (fun b hb => hB b (by simp at hb ⊢; rcases hb with hb | hb <;> simp [hb])) hF (fun _ h => h) (hsub.frame (fun b hb => hB b (by simp [hb])) hF (fun _ h => h))).2 p (List.prefix_refl p)
  rwa [set_self hp] at this
end AM

namespace AM
open Go

/-- What was lent: its blocks, the lists' values, the boxes' blocks. -/
structure Lent where
  has : Nat → Prop
  hd : Nat → Value
  bb : Nat → Nat
instance : CoeFun Lent (fun _ => Nat → Prop) := ⟨Lent.has⟩
/-- A frame's lists and boxes in memory. w0: the world when the call began; F: what is shown to it and stays; Lb: the blocks that were lent. -/
structure Inv (w0 : World) (F : FS) (Lb : Lent) (w : World) (bx : BX) (h : Heap) (g : Gh) : Prop where
  FB : ∀ b, F b → b < w0.heap.size ∧ ¬ Lb b
  ls : ∀ id t, h id = some t → CR w F [t] [g.hd id] (g.fp id) ∧ (g.fp id).Nodup ∧ ∀ b ∈ g.fp id, g.ow b = some (.inl id)
  bs : ∀ id cs, bx id = some cs → g.ow (g.bb id) = some (.inr id) ∧ ∃ arr el, w.heap[g.bb id]? = some (.cells arr el (0, 0)) ∧ (∀ x ∈ arr.toList, oc x = true) ∧ SRL w F bx h g cs arr.toList
  ow : ∀ b, g.ow b ≠ none → w0.heap.size ≤ b ∨ Lb b
  fr : ∀ b, b < w0.heap.size → ¬ Lb b → w.heap[b]? = w0.heap[b]?
  sz : w0.heap.size ≤ w.heap.size
  os : w.os = w0.os ∧ w.output = w0.output
  pin : (∀ k, k < CAN → g.hd (0, k) = Lb.hd k) ∧ ∀ k, k < CAN → g.bb (0, k) = Lb.bb k

structure Sm (w0 : World) (F : FS) (Lb : Lent) (w : World) (s : St) (tmps : Array Value) (g : Gh) : Prop where
  inv : Inv w0 F Lb w s.bx s.h g
  sl : ∀ x, SR w F s.bx s.h g (s.σ x) (tmps.getD x undef)

section
variable {w0 w w' : World} {F : FS} {Lb : Lent} {bx bx' : BX} {h h' : Heap} {g g' : Gh} {σ : Nat → SV} {tmps : Array Value}

theorem Inv.F_not (I : Inv w0 F Lb w bx h g) {b : Nat} (hb : g.ow b ≠ none) : ¬ F b := by
  intro hF
  obtain ⟨h1, h2⟩ := I.FB b hF
  rcases I.ow b hb with h3 | h3
  · omega
  · exact h2 h3

/-- Nobody's block. -/
def Free (bx : BX) (h : Heap) (g : Gh) (b : Nat) : Prop := (∀ id t, h id = some t → b ∉ g.fp id) ∧ ∀ id cs, bx id = some cs → g.bb id ≠ b

theorem heap_lt {w : World} {b : Nat} {o : Obj} (h : w.heap[b]? = some o) : b < w.heap.size := (Array.getElem?_eq_some_iff.1 h).1

theorem Inv.free_new (I : Inv w0 F Lb w bx h g) {b : Nat} (hb : w.heap.size ≤ b) : Free bx h g b := by
  refine ⟨fun id t ht hm => ?_, fun id cs hc he => ?_⟩
  · have := (I.ls id t ht).1.lt b hm
    omega
  · obtain ⟨_, arr, el, ha, _, _⟩ := I.bs id cs hc
    have := heap_lt ha
    omega

theorem cell_lt {w : World} {a : Addr} {v : Value} (h : w.cell? a = some v) : a.block < w.heap.size := by
  unfold World.cell? at h
  split at h
  · rename_i hb; exact heap_lt hb
  · cases h
theorem cell_same {w w' : World} {a : Addr} (h : w'.heap[a.block]? = w.heap[a.block]?) : w'.cell? a = w.cell? a := by
  unfold World.cell?
  rw [h]

/-- The state is handed on where values are. -/
theorem Sm.handed (S : Sm w0 F Lb w ⟨σ, bx, h⟩ tmps g) (I : Inv w0 F Lb w' bx' h' g') (E : Ext F (fun _ _ => True) w bx h g w' bx' h' g') : Sm w0 F Lb w' ⟨σ, bx', h'⟩ tmps g' :=
  ⟨I, fun x => SR.ext E (keeps_true _) (S.sl x)⟩

/-- A world in which more was made. -/
theorem Ext.grow (I : Inv w0 F Lb w bx h g) (hh : ∀ b, b < w.heap.size → w'.heap[b]? = w.heap[b]?) : Ext F (fun _ _ => True) w bx h g w' bx h g := by
  have hF : ∀ (a : Addr) x, F a.block → w.cell? a = some x → w'.cell? a = some x := fun a x _ hx => by rw [cell_same (hh _ (cell_lt hx))]; exact hx
  refine ⟨hF, fun id t p ht _ => ⟨t, ht, fun sz rows hat => ⟨rows, hat, rfl, ?_⟩⟩, fun id cs hc => ⟨⟨cs, hc⟩, rfl⟩⟩
  exact hdr_frame (I.ls id t ht).1 hat (fun b hb => hh b ((I.ls id t ht).1.lt b hb)) hF
theorem Inv.grow (I : Inv w0 F Lb w bx h g) (hh : ∀ b, b < w.heap.size → w'.heap[b]? = w.heap[b]?) (hs : w.heap.size ≤ w'.heap.size) (ho : w'.os = w.os ∧ w'.output = w.output) : Inv w0 F Lb w' bx h g := by
  have E := Ext.grow I hh
  refine ⟨I.FB, fun id t ht => ?_, fun id cs hc => ?_, I.ow, fun b hb hl => ?_, Nat.le_trans I.sz hs, ⟨ho.1.trans I.os.1, ho.2.trans I.os.2⟩, I.pin⟩
  · obtain ⟨h1, h2, h3⟩ := I.ls id t ht
    exact ⟨h1.frame (fun b hb => hh b (h1.lt b hb)) E.F (fun _ h => h), h2, h3⟩
  · obtain ⟨h1, arr, el, ha, ho, hs⟩ := I.bs id cs hc
    exact ⟨h1, arr, el, by rw [hh _ (heap_lt ha)]; exact ha, ho, SRL.ext E (keepsL_true _) hs⟩
  · rw [hh b (Nat.lt_of_lt_of_le hb I.sz)]; exact I.fr b hb hl
theorem Sm.grow (S : Sm w0 F Lb w ⟨σ, bx, h⟩ tmps g) (hh : ∀ b, b < w.heap.size → w'.heap[b]? = w.heap[b]?) (hs : w.heap.size ≤ w'.heap.size) (ho : w'.os = w.os ∧ w'.output = w.output) : Sm w0 F Lb w' ⟨σ, bx, h⟩ tmps g :=
  S.handed (S.inv.grow hh hs ho) (Ext.grow S.inv hh)

theorem Sm.put (S : Sm w0 F Lb w ⟨σ, bx, h⟩ tmps g) {d : Nat} {sv : SV} {v : Value} (hd : d < tmps.size) (hv : SR w F bx h g sv v) : Sm w0 F Lb w ⟨upd σ d sv, bx, h⟩ (tmps.setIfInBounds d v) g := by
  refine ⟨S.inv, fun x => ?_⟩
  simp only [upd]
  split
  · rename_i e
    subst e
    simp [Array.getElem?_setIfInBounds_self_of_lt hd]
    exact hv
  · rename_i e
    have := S.sl x
    simp only [Array.getD_eq_getD_getElem?] at this ⊢
    rw [Array.getElem?_setIfInBounds_ne (fun e2 => e e2.symm)]
    exact this

/-! ### A new list, a new box -/
def Gh.newL (g : Gh) (id : Id) (hv : Value) (B : List Nat) : Gh :=
  { hd := fun j => if j = id then hv else g.hd j, bb := g.bb, fp := fun j => if j = id then B else g.fp j, ow := fun b => if b ∈ B then some (.inl id) else g.ow b }
theorem Ext.newL {id : Id} {t : T} {hv : Value} {B : List Nat} (hid : h id = none) : Ext F (fun _ _ => True) w bx h g w bx (hnew h id t) (g.newL id hv B) := by
  refine ⟨fun _ _ _ h => h, fun id' t' p ht _ => ?_, fun id cs hc => ⟨⟨cs, hc⟩, rfl⟩⟩
  have hne : id' ≠ id := fun e => by rw [e, hid] at ht; cases ht
  refine ⟨t', by simp [hnew, hne, ht], fun sz rows hat => ⟨rows, hat, rfl, ?_⟩⟩
  simp [Gh.newL, hne]
theorem Inv.newL (I : Inv w0 F Lb w bx h g) {id : Id} {t : T} {hv : Value} {B : List Nat} (hid : h id = none) (hl : isLent id = false) (hc : CR w F [t] [hv] B) (hn : B.Nodup) (hf : ∀ b ∈ B, Free bx h g b ∧ (w0.heap.size ≤ b ∨ Lb b)) :
    Inv w0 F Lb w bx (hnew h id t) (g.newL id hv B) := by
  have E := Ext.newL (w := w) (F := F) (bx := bx) (g := g) (t := t) (hv := hv) (B := B) hid
  refine ⟨I.FB, fun id' t' ht => ?_, fun id' cs hcs => ?_, fun b hb => ?_, I.fr, I.sz, I.os, fun k hk => ?_, I.pin.2⟩
  rotate_left 3
  · have hne : ((0, k) : Id) ≠ id := fun e => by rw [← e] at hl; simp [isLent, hk] at hl
    simp only [Gh.newL, if_neg hne]
    exact I.pin.1 k hk
  · simp only [hnew] at ht
    by_cases e : id' = id
    · subst e
      simp only [if_true, Option.some.injEq] at ht
      subst ht
      exact ⟨by simpa [Gh.newL] using hc, by simpa [Gh.newL] using hn, fun b hb => by simp [Gh.newL] at hb ⊢; intro h; exact absurd hb h⟩
    · simp only [e, if_false] at ht
      obtain ⟨h1, h2, h3⟩ := I.ls id' t' ht
      refine ⟨by simpa [Gh.newL, e] using h1, by simpa [Gh.newL, e] using h2, fun b hb => ?_⟩
      simp only [Gh.newL, e, if_false] at hb ⊢
      rw [if_neg (fun hB => ((hf b hB).1.1 id' t' ht) hb)]
      exact h3 b hb
  · obtain ⟨h1, arr, el, ha, ho, hs⟩ := I.bs id' cs hcs
    refine ⟨?_, arr, el, ha, ho, SRL.ext E (keepsL_true _) hs⟩
    simp only [Gh.newL]
    rw [if_neg (fun hB => ((hf _ hB).1.2 id' cs hcs) rfl)]
    exact h1
  · simp only [Gh.newL] at hb
    split at hb
    · rename_i hB; exact (hf b hB).2
    · exact I.ow b hb
theorem Sm.newL (S : Sm w0 F Lb w ⟨σ, bx, h⟩ tmps g) {id : Id} {t : T} {hv : Value} {B : List Nat} (hid : h id = none) (hl : isLent id = false) (hc : CR w F [t] [hv] B) (hn : B.Nodup) (hf : ∀ b ∈ B, Free bx h g b ∧ (w0.heap.size ≤ b ∨ Lb b)) :
    Sm w0 F Lb w ⟨σ, bx, hnew h id t⟩ tmps (g.newL id hv B) := S.handed (S.inv.newL hid hl hc hn hf) (Ext.newL hid)
theorem add_none (b o n : Nat) : (⟨b, o, none⟩ : Addr).add n = ⟨b, o + n, none⟩ := by
  unfold Addr.add
  split
  · rename_i e; simp [e]
  · rfl
theorem subH_self {a : Option Addr} {n cap sz : Nat} (hn : n ≤ cap) : subH (.slice a n cap) sz 0 n (.slice a n cap) := by
  refine ⟨Nat.zero_le _, by omega, a, rfl, .inr ?_⟩
  cases a with
  | none => rfl
  | some ad => simp [Addr.add]
theorem SR.root {id : Id} {sz n cap : Nat} {rows : List (List T)} {a : Option Addr} {B : List Nat} (hl : slLook n (.slice a n cap)) :
    SR w F bx (hnew h id (.l true sz rows)) (g.newL id (.slice a n cap) B) (.r id [] sz 0 n) (.slice a n cap) := by
  simp only [SR]
  refine ⟨hl, .l true sz rows, by simp [hnew], fun rows' hat => ⟨.slice a n cap, by simp [hdr, Gh.newL], ?_⟩⟩
  obtain ⟨_, _, e, hn, _⟩ := hl
  injection e with _ _ e
  subst e
  exact subH_self hn

def Gh.newB (g : Gh) (id : Id) (b : Nat) : Gh := { g with bb := fun j => if j = id then b else g.bb j, ow := fun x => if x = b then some (.inr id) else g.ow x }
theorem Ext.newB {id : Id} {cs : List SV} {b : Nat} (hid : bx id = none) : Ext F (fun _ _ => True) w bx h g w (bnew bx id cs) h (g.newB id b) := by
  refine ⟨fun _ _ _ h => h, fun id' t' p ht _ => ⟨t', ht, fun sz rows hat => ⟨rows, hat, rfl, rfl⟩⟩, fun id' cs' hc => ?_⟩
  have hne : id' ≠ id := fun e => by rw [e, hid] at hc; cases hc
  exact ⟨⟨cs', by simp [bnew, hne, hc]⟩, by simp [Gh.newB, hne]⟩
theorem Sm.newB (S : Sm w0 F Lb w ⟨σ, bx, h⟩ tmps g) {id : Id} {cs : List SV} {b : Nat} {arr : Array Value} {el : TypeId} (hid : bx id = none) (hl : isLent id = false) (hb : w.heap[b]? = some (.cells arr el (0, 0))) (ho : ∀ x ∈ arr.toList, oc x = true) (hs : SRL w F bx h g cs arr.toList)
    (hf : Free bx h g b ∧ (w0.heap.size ≤ b ∨ Lb b)) : Sm w0 F Lb w ⟨σ, bnew bx id cs, h⟩ tmps (g.newB id b) ∧ SR w F (bnew bx id cs) h (g.newB id b) (.b id 0) (.pointer (some ⟨b, 0, none⟩)) := by
  have I := S.inv
  have E := Ext.newB (w := w) (F := F) (h := h) (g := g) (cs := cs) (b := b) hid
  refine ⟨S.handed ⟨I.FB, fun id' t' ht => ?_, fun id' cs' hcs => ?_, fun x hx => ?_, I.fr, I.sz, I.os, I.pin.1, fun k hk => ?_⟩ E, ?_⟩
  rotate_left 3
  · have hne : ((0, k) : Id) ≠ id := fun e => by rw [← e] at hl; simp [isLent, hk] at hl
    simp only [Gh.newB, if_neg hne]
    exact I.pin.2 k hk
  rotate_right 3
  · obtain ⟨h1, h2, h3⟩ := I.ls id' t' ht
    refine ⟨h1, h2, fun x hx => ?_⟩
    simp only [Gh.newB]
    rw [if_neg (fun e => hf.1.1 id' t' ht (by rw [← e]; exact hx))]
    exact h3 x hx
  · simp only [bnew] at hcs
    by_cases e : id' = id
    · subst e
      simp only [if_true, Option.some.injEq] at hcs
      subst hcs
      exact ⟨by simp [Gh.newB], arr, el, by simpa [Gh.newB] using hb, ho, SRL.ext E (keepsL_true _) hs⟩
    · simp only [e, if_false] at hcs
      obtain ⟨h1, arr', el', ha, ho', hs'⟩ := I.bs id' cs' hcs
      refine ⟨?_, arr', el', by simpa [Gh.newB, e] using ha, ho', SRL.ext E (keepsL_true _) hs'⟩
      simp only [Gh.newB, e, if_false]
      rw [if_neg (fun e2 => hf.1.2 id' cs' hcs e2)]
      exact h1
  · simp only [Gh.newB] at hx
    split at hx
    · rename_i e; subst e; exact hf.2
    · exact I.ow x hx
  · simp only [SR]
    exact ⟨⟨cs, by simp [bnew]⟩, by simp [Gh.newB]⟩

/-! ### Out of its place -/
theorem hput_at {id id' : Id} {p : Path} {t : T} : hput h id p t id' = if id' = id then (h id).map (·.set p t) else h id' := rfl
/-- A tree is taken out of its place. -/
theorem Sm.hole (S : Sm w0 F Lb w ⟨σ, bx, h⟩ tmps g) {id : Id} {p : Path} {t ts : T} (ht : h id = some t) (hat : t.at p = some ts) :
    ∃ hs B g', hdr w (g.hd id) t p = some hs ∧ CR w F [ts] [hs] B ∧ B.Nodup ∧ (∀ b ∈ B, Free bx (hput h id p .u) g' b ∧ (w0.heap.size ≤ b ∨ Lb b)) ∧
      Sm w0 F Lb w ⟨σ, bx, hput h id p .u⟩ tmps g' ∧ Ext F (fun _ _ => True) w bx h g w bx (hput h id p .u) g' ∧ (∀ b, Free bx h g b → Free bx (hput h id p .u) g' b) ∧ (∀ b ∈ B, ∃ id t, h id = some t ∧ b ∈ g.fp id) ∧ g'.hd = g.hd ∧ g'.bb = g.bb ∧ g'.ow = g.ow := by
  have I := S.inv
  obtain ⟨h1, h2, h3⟩ := I.ls id t ht
  obtain ⟨hs, X, Bs, Y, hh, hB, hsub, hback⟩ := h1.focus hat
  obtain ⟨hc', _⟩ := hback w F .u [] (fun _ _ => rfl) (fun _ _ _ h => h) (fun _ h => h) (.u hs (hsub.oc hs List.mem_cons_self) .nil)
  rw [List.append_nil] at hc'
  let g' : Gh := { g with fp := fun j => if j = id then X ++ Y else g.fp j }
  have hsubset : ∀ b, b ∈ X ++ Y → b ∈ g.fp id := fun b hb => by rw [hB]; simp at hb ⊢; rcases hb with hb | hb <;> simp [hb]
  have hfree : ∀ b, Free bx h g b → Free bx (hput h id p .u) g' b := fun b hb => by
    refine ⟨fun id' t' ht' hm => ?_, hb.2⟩
    simp only [hput] at ht'
    simp only [g'] at hm
    by_cases e : id' = id
    · subst e; simp only [if_true] at hm; exact hb.1 id' t ht (hsubset b hm)
    · simp only [e, if_false] at hm ht'; exact hb.1 id' t' ht' hm
  have E : Ext F (fun _ _ => True) w bx h g w bx (hput h id p .u) g' := by
    refine ⟨fun _ _ _ h => h, fun id' t' q ht' _ => ?_, fun id cs hc => ⟨⟨cs, hc⟩, rfl⟩⟩
    by_cases e : id' = id
    · subst e
      rw [ht] at ht'
      injection ht' with ht'
      subst ht'
      refine ⟨t.set p .u, by simp [hput, ht], fun sz rows' hq => ?_⟩
      exact at_hole w hat hq
    · exact ⟨t', by simp [hput, e, ht'], fun sz rows hq => ⟨rows, hq, rfl, rfl⟩⟩
  have hnd : (X ++ Y).Nodup := by
    rw [hB] at h2
    rw [List.append_assoc] at h2
    obtain ⟨a, b, c⟩ := List.nodup_append.1 h2
    obtain ⟨d, e, f⟩ := List.nodup_append.1 b
    exact List.nodup_append.2 ⟨a, e, fun x hx y hy => c x hx y (by simp [hy])⟩
  have hBn : Bs.Nodup := by
    rw [hB, List.append_assoc] at h2
    exact (List.nodup_append.1 (List.nodup_append.1 h2).2.1).1
  have hdisj : ∀ b ∈ Bs, b ∉ X ++ Y := by
    intro b hb hm
    rw [hB, List.append_assoc] at h2
    obtain ⟨a, c, d⟩ := List.nodup_append.1 h2
    rcases List.mem_append.1 hm with hm | hm
    · exact d b hm b (by simp [hb]) rfl
    · exact (List.nodup_append.1 c).2.2 b hb b hm rfl
  have I' : Inv w0 F Lb w bx (hput h id p .u) g' := by
    refine ⟨I.FB, fun id' t' ht' => ?_, fun id' cs hcs => ?_, I.ow, I.fr, I.sz, I.os, I.pin⟩
    · simp only [hput] at ht'
      by_cases e : id' = id
      · subst e
        simp only [if_true, ht, Option.map_some, Option.some.injEq] at ht'
        subst ht'
        exact ⟨by simpa [g'] using hc', by simpa [g'] using hnd, fun b hb => h3 b (hsubset b (by simpa [g'] using hb))⟩
      · simp only [e, if_false] at ht'
        simpa [g', e] using I.ls id' t' ht'
    · obtain ⟨k1, arr, el, ha, ho, hs⟩ := I.bs id' cs hcs
      exact ⟨k1, arr, el, ha, ho, SRL.ext E (keepsL_true _) hs⟩
  have hin : ∀ b ∈ Bs, b ∈ g.fp id := fun b hb => by rw [hB]; simp [hb]
  refine ⟨hs, Bs, g', hh, hsub, hBn, fun b hb => ⟨⟨fun id' t' ht' hm => ?_, fun id' cs hcs he => ?_⟩, ?_⟩, S.handed I' E, E, hfree, fun b hb => ⟨id, t, ht, hin b hb⟩, rfl, rfl, rfl⟩
  · simp only [hput] at ht'
    simp only [g'] at hm
    by_cases e : id' = id
    · subst e
      simp only [if_true] at hm
      exact hdisj b hb hm
    · simp only [e, if_false] at hm ht'
      have := (I.ls id' t' ht').2.2 b hm
      rw [h3 b (hin b hb)] at this
      injection this with this
      injection this with this
      exact e this.symm
  · have := (I.bs id' cs hcs).1
    rw [he, h3 b (hin b hb)] at this
    cases this
  · exact I.ow b (by rw [h3 b (hin b hb)]; simp)
end
end AM

namespace AM
open Go

section
variable {w0 w w' : World} {F : FS} {Lb : Lent} {bx bx' : BX} {h h' : Heap} {g g' : Gh} {σ : Nat → SV} {tmps : Array Value}

theorem CR.takeN {sz n : Nat} {rows : List (List T)} {hs v : Value} {B : List Nat} (hc : CR w F [.l true sz rows] [hs] B) (hn : n ≤ rows.length) (hv : subH hs sz 0 n v) :
    ∃ B', CR w F [.l true sz (rows.take n)] [v] B' ∧ List.Sublist B' B := by
  cases hc with
  | own0 hr =>
    cases hr
    obtain ⟨_, h2, ad, rfl, _⟩ := hv
    obtain rfl : n = 0 := by simpa using hn
    exact ⟨[], by simpa using CR.own0 CR.nil, List.Sublist.refl _⟩
  | @own _ _ B1 B2 _ cap b _ arr el hb hu hn2 hsz hcells hr =>
    cases hr
    obtain ⟨_, h2, ad, rfl, had⟩ := hv
    by_cases hc0 : cap = 0
    · subst hc0
      obtain rfl : n = 0 := by omega
      exact ⟨[], by simpa using CR.own0 CR.nil, List.nil_sublist _⟩
    obtain rfl := had.resolve_left hc0
    have hfl : rows.flatten = (rows.take n).flatten ++ (rows.drop n).flatten := by rw [← List.flatten_append, List.take_append_drop]
    rw [hfl] at hcells
    obtain ⟨v1, v2, Ba, Bb, hvs, rfl, h3, h4⟩ := CR.split hcells
    have hu1 : ∀ r ∈ rows.take n, r.length = sz := fun r hr => hu r (List.mem_of_mem_take hr)
    have hl1 : v1.length = n * sz := by
      rw [← h3.len, flatten_len hu1, List.length_take, Nat.min_eq_left hn]
    have hv1 : arr.toList.take (n * sz) = v1 := by
      have : arr.toList.take (n * sz) = (arr.toList.take (rows.length * sz)).take (n * sz) := by
        rw [List.take_take, Nat.min_eq_left (Nat.mul_le_mul_right _ hn)]
      rw [this, hvs, List.take_append_of_le_length (by omega), ← hl1, List.take_length]
    have hlen : (rows.take n).length = n := by rw [List.length_take, Nat.min_eq_left hn]
    have := CR.own (cap := cap) hb hu1 (by rw [hlen]; omega) hsz (by rw [hlen, hv1]; exact h3) CR.nil
    rw [hlen] at this
    refine ⟨b :: (Ba ++ []), ?_, ?_⟩
    · have e : (some (⟨b, 0, none⟩ : Addr)).map (·.add (0 * sz)) = some ⟨b, 0, none⟩ := by simp [Addr.add]
      rw [e]
      simpa using this
    · simp

/-- What a move leaves and takes. -/
structure Mvd (w0 : World) (F : FS) (Lb : Lent) (w : World) (σ : Nat → SV) (bx : BX) (tmps : Array Value) (h : Heap) (g : Gh) (h1 : Heap) (g1 : Gh) (B : List Nat) : Prop where
  nd : B.Nodup
  fr : ∀ b ∈ B, Free bx h1 g1 b ∧ (w0.heap.size ≤ b ∨ Lb b)
  sm : Sm w0 F Lb w ⟨σ, bx, h1⟩ tmps g1
  ext : Ext F (fun _ _ => True) w bx h g w bx h1 g1
  mono : ∀ b, Free bx h g b → Free bx h1 g1 b
  was : ∀ b ∈ B, ¬ Free bx h g b
  dom : ∀ id, h1 id = none ↔ h id = none
  same : g1.hd = g.hd ∧ g1.bb = g.bb ∧ g1.ow = g.ow

theorem Ext.refl (w : World) (F : FS) (K) (bx : BX) (h : Heap) (g : Gh) : Ext F K w bx h g w bx h g :=
  ⟨fun _ _ _ h => h, fun _ t _ ht _ => ⟨t, ht, fun _ rows hat => ⟨rows, hat, rfl, rfl⟩⟩, fun _ cs hc => ⟨⟨cs, hc⟩, rfl⟩⟩
theorem Mvd.none (S : Sm w0 F Lb w ⟨σ, bx, h⟩ tmps g) : Mvd w0 F Lb w σ bx tmps h g h g [] :=
  ⟨List.nodup_nil, by simp, S, Ext.refl _ _ _ _ _ _, fun _ h => h, by simp, fun _ => Iff.rfl, rfl, rfl, rfl⟩
theorem hput_dom {id : Id} {p : Path} {t : T} (j : Id) : hput h id p t j = none ↔ h j = none := by
  unfold hput
  split
  · rename_i e; subst e; simp
  · exact Iff.rfl

theorem Sm.mv1 (S : Sm w0 F Lb w ⟨σ, bx, h⟩ tmps g) {s : SV} {v : Value} {t : T} {h1 : Heap} (hs : SR w F bx h g s v) (ho : s = .u → oc v = true) (he : mv1 h s = some (t, h1)) :
    ∃ g1 B, CR w F [t] [v] B ∧ Mvd w0 F Lb w σ bx tmps h g h1 g1 B := by
  unfold AM.mv1 at he
  split at he
  · obtain ⟨rfl, rfl⟩ := Prod.mk.inj (Option.some.inj he)
    exact ⟨g, [], .u v (ho rfl) .nil, .none S⟩
  · obtain ⟨rfl, rfl⟩ := Prod.mk.inj (Option.some.inj he)
    exact ⟨g, [], by simpa [SR] using hs, .none S⟩
  · rename_i id p s lo n
    split at he
    · rename_i sz rows hq
      split at he
      · rename_i hc
        obtain ⟨rfl, hn, rfl⟩ := hc
        obtain ⟨rfl, rfl⟩ := Prod.mk.inj (Option.some.inj he)
        obtain ⟨t0, ht, hat⟩ := Option.bind_eq_some_iff.1 hq
        simp only [SR] at hs
        obtain ⟨_, t1, ht1, hs⟩ := hs
        rw [ht] at ht1
        obtain rfl := Option.some.inj ht1
        obtain ⟨hv, hh, hsub⟩ := hs rows hat
        obtain ⟨hs2, B, g', hh2, hcr, hnd, hfr, hS, hE, hmono, hwas, hsame⟩ := S.hole ht hat
        rw [hh] at hh2
        obtain rfl := Option.some.inj hh2
        obtain ⟨B', hcr', hsl⟩ := hcr.takeN hn hsub
        refine ⟨g', B', hcr', ⟨hnd.sublist hsl, fun b hb => hfr b (hsl.subset hb), hS, hE, hmono, fun b hb hfree => ?_, fun j => hput_dom j, hsame⟩⟩
        obtain ⟨id', t', ht', hm⟩ := hwas b (hsl.subset hb)
        exact hfree.1 id' t' ht' hm
      · cases he
    · cases he
  · cases he

theorem Ext.trans {K} {w1 w2 w3 : World} {b1 b2 b3 : BX} {h1 h2 h3 : Heap} {g1 g2 g3 : Gh} (a : Ext F K w1 b1 h1 g1 w2 b2 h2 g2) (b : Ext F K w2 b2 h2 g2 w3 b3 h3 g3) : Ext F K w1 b1 h1 g1 w3 b3 h3 g3 := by
  refine ⟨fun ad x hF hx => b.F ad x hF (a.F ad x hF hx), fun id t p ht hk => ?_, fun id cs hc => ?_⟩
  · obtain ⟨t2, ht2, q2⟩ := a.l id t p ht hk
    obtain ⟨t3, ht3, q3⟩ := b.l id t2 p ht2 hk
    refine ⟨t3, ht3, fun sz rows hat => ?_⟩
    obtain ⟨r2, k1, k2, k3⟩ := q3 sz rows hat
    obtain ⟨r1, l1, l2, l3⟩ := q2 sz r2 k1
    exact ⟨r1, l1, by omega, by rw [k3, l3]⟩
  · obtain ⟨⟨c2, h2⟩, e2⟩ := a.b id cs hc
    obtain ⟨h3, e3⟩ := b.b id c2 h2
    exact ⟨h3, by rw [e3, e2]⟩

theorem Mvd.trans {h1 h2 : Heap} {g1 g2 : Gh} {B1 B2 : List Nat} (a : Mvd w0 F Lb w σ bx tmps h g h1 g1 B1) (b : Mvd w0 F Lb w σ bx tmps h1 g1 h2 g2 B2) : Mvd w0 F Lb w σ bx tmps h g h2 g2 (B1 ++ B2) := by
  refine ⟨List.nodup_append.2 ⟨a.nd, b.nd, fun x hx y hy e => ?_⟩, fun x hx => ?_, b.sm, a.ext.trans b.ext, fun x hx => b.mono x (a.mono x hx), fun x hx => ?_, fun id => (b.dom id).trans (a.dom id), b.same.1.trans a.same.1, b.same.2.1.trans a.same.2.1, b.same.2.2.trans a.same.2.2⟩
  · subst e; exact b.was x hy (a.fr x hx).1
  · rcases List.mem_append.1 hx with hx | hx
    · exact ⟨b.mono x (a.fr x hx).1, (a.fr x hx).2⟩
    · exact b.fr x hx
  · rcases List.mem_append.1 hx with hx | hx
    · exact a.was x hx
    · exact fun hf => b.was x hx (a.mono x hf)

theorem Sm.mvL : ∀ {ss : List SV} {vs : List Value} {ts : List T} {h h1 : Heap} {g : Gh}, Sm w0 F Lb w ⟨σ, bx, h⟩ tmps g → SRL w F bx h g ss vs → (∀ v ∈ vs, oc v = true) → mvL h ss = some (ts, h1) →
    ∃ g1 B, CR w F ts vs B ∧ Mvd w0 F Lb w σ bx tmps h g h1 g1 B
  | [], [], ts, h, h1, g, S, _, _, he => by
    simp only [AM.mvL, Option.some.injEq, Prod.mk.injEq] at he
    obtain ⟨rfl, rfl⟩ := he
    exact ⟨g, [], .nil, .none S⟩
  | s :: ss, v :: vs, ts, h, h1, g, S, hs, ho, he => by
    simp only [AM.mvL] at he
    split at he
    · rename_i t h2 h2e
      split at he
      · rename_i ts' h3 h3e
        simp only [Option.some.injEq, Prod.mk.injEq] at he
        obtain ⟨rfl, rfl⟩ := he
        obtain ⟨g1, B1, hc1, M1⟩ := S.mv1 hs.1 (fun _ => ho v List.mem_cons_self) h2e
        obtain ⟨g2, B2, hc2, M2⟩ := Sm.mvL M1.sm (SRL.ext M1.ext (keepsL_true _) hs.2) (fun x hx => ho x (List.mem_cons_of_mem _ hx)) h3e
        exact ⟨g2, B1 ++ B2, hc1.single hc2, M1.trans M2⟩
      · cases he
    · cases he
  | [], _ :: _, _, _, _, _, _, hh, _, _ => by cases hh
  | _ :: _, [], _, _, _, _, _, hh, _, _ => by cases hh

theorem oc_cells {v : Value} (h : oc v = true) : v.cells = #[v] := by cases v <;> first | rfl | cases h

theorem Sm.mvC (S : Sm w0 F Lb w ⟨σ, bx, h⟩ tmps g) {s : SV} {v : Value} {ts : List T} {h1 : Heap} (hs : SR w F bx h g s v) (he : mvC h s = some (ts, h1)) :
    ∃ g1 B, CR w F ts v.cells.toList B ∧ Mvd w0 F Lb w σ bx tmps h g h1 g1 B := by
  unfold AM.mvC at he
  split at he
  · rename_i cs
    simp only [SR] at hs
    obtain ⟨arr, rfl, ho, hs⟩ := hs
    exact S.mvL hs ho he
  · cases he
  · rename_i hna hnu
    split at he
    · rename_i t h2 h2e
      obtain ⟨rfl, rfl⟩ := Prod.mk.inj (Option.some.inj he)
      obtain ⟨g1, B, hc, M⟩ := S.mv1 hs (fun e => absurd e hnu) h2e
      have ho := hc.oc v List.mem_cons_self
      exact ⟨g1, B, by rw [oc_cells ho]; exact hc, M⟩
    · cases he

/-- What crosses a call, and its value. -/
def VR (w : World) (F : FS) : V → Value → List Nat → Prop
  | .o t, v, B => CR w F [t] [v] B
  | .a ts, v, B => ∃ arr : Array Value, v = .agg arr ∧ CR w F ts arr.toList B
theorem Sm.mvV (S : Sm w0 F Lb w ⟨σ, bx, h⟩ tmps g) {s : SV} {v : Value} {x : V} {h1 : Heap} (hs : SR w F bx h g s v) (he : mvV h s = some (x, h1)) :
    ∃ g1 B, VR w F x v B ∧ Mvd w0 F Lb w σ bx tmps h g h1 g1 B := by
  unfold AM.mvV at he
  split at he
  · cases he
  · rename_i cs
    split at he
    · rename_i ts h2 h2e
      obtain ⟨rfl, rfl⟩ := Prod.mk.inj (Option.some.inj he)
      simp only [SR] at hs
      obtain ⟨arr, rfl, ho, hs⟩ := hs
      obtain ⟨g1, B, hc, M⟩ := S.mvL hs ho h2e
      exact ⟨g1, B, ⟨arr, rfl, hc⟩, M⟩
    · cases he
  · rename_i hnu hna
    split at he
    · rename_i t h2 h2e
      obtain ⟨rfl, rfl⟩ := Prod.mk.inj (Option.some.inj he)
      exact S.mv1 hs (fun e => absurd e hnu) h2e
    · cases he

/-! ### Into the frame -/
/-- What a gift leaves. -/
structure Gvn (w0 : World) (F : FS) (Lb : Lent) (w : World) (σ : Nat → SV) (bx : BX) (tmps : Array Value) (h : Heap) (g : Gh) (h1 : Heap) (g1 : Gh) (B : List Nat) : Prop where
  sm : Sm w0 F Lb w ⟨σ, bx, h1⟩ tmps g1
  ext : Ext F (fun _ _ => True) w bx h g w bx h1 g1
  keep : ∀ b, Free bx h g b → b ∉ B → Free bx h1 g1 b
  hd : ∀ id, h id ≠ none → g1.hd id = g.hd id ∧ h1 id = h id
  bb : g1.bb = g.bb
  ow : ∀ b, b ∉ B → g1.ow b = g.ow b
theorem Gvn.none (S : Sm w0 F Lb w ⟨σ, bx, h⟩ tmps g) : Gvn w0 F Lb w σ bx tmps h g h g [] := ⟨S, Ext.refl _ _ _ _ _ _, fun _ h _ => h, fun _ _ => ⟨rfl, rfl⟩, rfl, fun _ _ => rfl⟩
theorem Gvn.trans {h1 h2 : Heap} {g1 g2 : Gh} {B1 B2 : List Nat} (a : Gvn w0 F Lb w σ bx tmps h g h1 g1 B1) (b : Gvn w0 F Lb w σ bx tmps h1 g1 h2 g2 B2) : Gvn w0 F Lb w σ bx tmps h g h2 g2 (B1 ++ B2) := by
  refine ⟨b.sm, a.ext.trans b.ext, fun x hx hn => b.keep x (a.keep x hx fun h => hn (by simp [h])) fun h => hn (by simp [h]), fun id hi => ?_, b.bb.trans a.bb, fun x hx => (b.ow x fun h => hx (by simp [h])).trans (a.ow x fun h => hx (by simp [h]))⟩
  obtain ⟨p, q⟩ := a.hd id hi
  obtain ⟨r, s⟩ := b.hd id (by rw [q]; exact hi)
  exact ⟨r.trans p, s.trans q⟩

theorem Sm.give1 (S : Sm w0 F Lb w ⟨σ, bx, h⟩ tmps g) {id : Id} (hnl : isLent id = false) {t : T} {v : Value} {B : List Nat} {s : SV} {h1 : Heap} (hc : CR w F [t] [v] B) (hn : B.Nodup) (hf : ∀ b ∈ B, Free bx h g b ∧ (w0.heap.size ≤ b ∨ Lb b))
    (he : give1 h id t = some (s, h1)) : ∃ g1, SR w F bx h1 g1 s v ∧ Gvn w0 F Lb w σ bx tmps h g h1 g1 B := by
  unfold AM.give1 at he
  split at he
  · rename_i sz rows
    split at he
    · rename_i hid
      obtain ⟨rfl, rfl⟩ := Prod.mk.inj (Option.some.inj he)
      have key : ∃ a cap, v = .slice a rows.length cap ∧ slLook rows.length (.slice a rows.length cap) := by
        cases hc with
        | own0 _ => exact ⟨_, 0, rfl, _, _, rfl, Nat.le_refl _, fun h => absurd h (by simp)⟩
        | own _ _ hl _ _ _ => exact ⟨_, _, rfl, _, _, rfl, hl, fun _ => ⟨_, _, rfl⟩⟩
      obtain ⟨a, cap, rfl, hl⟩ := key
      refine ⟨g.newL id (.slice a rows.length cap) B, SR.root hl, S.newL hid hnl hc hn hf, Ext.newL hid, fun b hb hnB => ⟨fun id' t' ht' hm => ?_, hb.2⟩, fun id' hi => ?_, rfl, fun b hb => by simp [Gh.newL, hb]⟩
      · simp only [hnew] at ht'
        simp only [Gh.newL] at hm
        by_cases e : id' = id
        · simp only [e, if_true] at hm; exact hnB hm
        · simp only [e, if_false] at hm ht'; exact hb.1 id' t' ht' hm
      · have hne : id' ≠ id := fun e => hi (by rw [e, hid])
        simp [Gh.newL, hnew, hne]
    · cases he
  · rename_i hno
    obtain ⟨rfl, rfl⟩ := Prod.mk.inj (Option.some.inj he)
    have hB : B = [] := by
      match t, hc with
      | .u, .u _ _ h => cases h; rfl
      | .v _, .v _ _ h => cases h; rfl
      | .l false _ _, .imm0 h => cases h; rfl
      | .l false _ _, .imm _ _ _ _ _ _ h => cases h; rfl
      | .l true sz rows, _ => exact absurd rfl (hno sz rows)
    subst hB
    exact ⟨g, by simpa [SR] using hc, .none S⟩

theorem Sm.giveL : ∀ {ts : List T} {vs : List Value} {ss : List SV} {h h1 : Heap} {g : Gh} {d j : Nat} {B : List Nat}, d ≠ 0 → Sm w0 F Lb w ⟨σ, bx, h⟩ tmps g → CR w F ts vs B → B.Nodup → (∀ b ∈ B, Free bx h g b ∧ (w0.heap.size ≤ b ∨ Lb b)) →
    giveL h d j ts = some (ss, h1) → ∃ g1, SRL w F bx h1 g1 ss vs ∧ Gvn w0 F Lb w σ bx tmps h g h1 g1 B
  | [], vs, ss, h, h1, g, d, j, B, _, S, hc, _, _, he => by
    cases hc
    simp only [AM.giveL, Option.some.injEq, Prod.mk.injEq] at he
    obtain ⟨rfl, rfl⟩ := he
    exact ⟨g, trivial, .none S⟩
  | t :: ts, vs, ss, h, h1, g, d, j, B, h0, S, hc, hn, hf, he => by
    simp only [AM.giveL] at he
    split at he
    · rename_i s h2 h2e
      split at he
      · rename_i ss' h3 h3e
        simp only [Option.some.injEq, Prod.mk.injEq] at he
        obtain ⟨rfl, rfl⟩ := he
        obtain ⟨v, vs', B1, B2, rfl, rfl, c1, c2⟩ := hc.uncons
        obtain ⟨n1, n2, n3⟩ := List.nodup_append.1 hn
        obtain ⟨g1, s1, G1⟩ := S.give1 (by simp [isLent, h0]) c1 n1 (fun b hb => hf b (by simp [hb])) h2e
        obtain ⟨g2, s2, G2⟩ := Sm.giveL h0 G1.sm c2 n2 (fun b hb => ⟨G1.keep b (hf b (by simp [hb])).1 (fun h => n3 b h b hb rfl), (hf b (by simp [hb])).2⟩) h3e
        exact ⟨g2, ⟨SR.ext G2.ext (keeps_true _) s1, s2⟩, G1.trans G2⟩
      · cases he
    · cases he

theorem Sm.giveV (S : Sm w0 F Lb w ⟨σ, bx, h⟩ tmps g) {d j : Nat} (h0 : d ≠ 0) {x : V} {v : Value} {B : List Nat} {s : SV} {h1 : Heap} (hc : VR w F x v B) (hn : B.Nodup) (hf : ∀ b ∈ B, Free bx h g b ∧ (w0.heap.size ≤ b ∨ Lb b))
    (he : giveV h d j x = some (s, h1)) : ∃ g1, SR w F bx h1 g1 s v ∧ Gvn w0 F Lb w σ bx tmps h g h1 g1 B := by
  unfold AM.giveV at he
  split at he
  · exact S.give1 (by simp [isLent, h0]) hc hn hf he
  · rename_i ts
    split at he
    · rename_i ss h2 h2e
      obtain ⟨rfl, rfl⟩ := Prod.mk.inj (Option.some.inj he)
      obtain ⟨arr, rfl, hc⟩ := hc
      obtain ⟨g1, s1, G⟩ := Sm.giveL h0 S hc hn hf h2e
      exact ⟨g1, by simp only [SR]; exact ⟨arr, rfl, hc.oc, s1⟩, G⟩
    · cases he

/-- Several results. -/
def VRL (w : World) (F : FS) : List V → List Value → List Nat → Prop
  | [], [], B => B = []
  | x :: xs, v :: vs, B => ∃ B1 B2, B = B1 ++ B2 ∧ VR w F x v B1 ∧ VRL w F xs vs B2
  | _, _, _ => False
theorem Sm.giveVs : ∀ {xs : List V} {vs : List Value} {ss : List SV} {h h1 : Heap} {g : Gh} {d j : Nat} {B : List Nat}, d ≠ 0 → Sm w0 F Lb w ⟨σ, bx, h⟩ tmps g → VRL w F xs vs B → B.Nodup → (∀ b ∈ B, Free bx h g b ∧ (w0.heap.size ≤ b ∨ Lb b)) →
    giveVs h d j xs = some (ss, h1) → ∃ g1, SRL w F bx h1 g1 ss vs ∧ Gvn w0 F Lb w σ bx tmps h g h1 g1 B
  | [], [], ss, h, h1, g, d, j, B, _, S, hc, _, _, he => by
    simp only [AM.giveVs, Option.some.injEq, Prod.mk.injEq] at he
    obtain ⟨rfl, rfl⟩ := he
    obtain rfl : B = [] := hc
    exact ⟨g, trivial, .none S⟩
  | x :: xs, v :: vs, ss, h, h1, g, d, j, B, h0, S, hc, hn, hf, he => by
    simp only [AM.giveVs] at he
    split at he
    · rename_i s h2 h2e
      split at he
      · rename_i ss' h3 h3e
        simp only [Option.some.injEq, Prod.mk.injEq] at he
        obtain ⟨rfl, rfl⟩ := he
        obtain ⟨B1, B2, rfl, c1, c2⟩ := hc
        obtain ⟨n1, n2, n3⟩ := List.nodup_append.1 hn
        obtain ⟨g1, s1, G1⟩ := S.giveV h0 c1 n1 (fun b hb => hf b (by simp [hb])) h2e
        obtain ⟨g2, s2, G2⟩ := Sm.giveVs h0 G1.sm c2 n2 (fun b hb => ⟨G1.keep b (hf b (by simp [hb])).1 (fun h => n3 b h b hb rfl), (hf b (by simp [hb])).2⟩) h3e
        exact ⟨g2, ⟨SR.ext G2.ext (keeps_true _) s1, s2⟩, G1.trans G2⟩
      · cases he
    · cases he
  | [], _ :: _, _, _, _, _, _, _, _, _, _, hc, _, _, _ => by cases hc
  | _ :: _, [], _, _, _, _, _, _, _, _, _, hc, _, _, _ => by cases hc
end
end AM

namespace AM
open Go

theorem fzLL_take : ∀ (rows : List (List T)) (n : Nat), fzLL (rows.take n) = (fzLL rows).take n
  | [], n => by simp [fzLL]
  | r :: rs, 0 => by simp [fzLL]
  | r :: rs, n + 1 => by simp only [List.take_succ_cons, fzLL, fzLL_take rs n]
theorem fzLL_drop : ∀ (rows : List (List T)) (n : Nat), fzLL (rows.drop n) = (fzLL rows).drop n
  | [], n => by simp [fzLL]
  | r :: rs, 0 => by simp [fzLL]
  | r :: rs, n + 1 => by simp only [List.drop_succ_cons, fzLL, fzLL_drop rs n]

section
variable {w0 w w' : World} {F F' : FS} {Lb : Lent} {bx bx' : BX} {h h' : Heap} {g g' : Gh} {σ : Nat → SV} {tmps : Array Value}

theorem CR.immSub {sz lo n : Nat} {rows : List (List T)} {hs v : Value} (hc : CR w F [.l false sz rows] [hs] []) (hn : lo + n ≤ rows.length) (hv : subH hs sz lo n v) :
    CR w F [.l false sz ((rows.drop lo).take n)] [v] [] := by
  by_cases h0 : n = 0
  · subst h0
    rw [List.take_zero]
    cases hc with
    | imm0 _ => obtain ⟨_, _, _, rfl, _⟩ := hv; exact .imm0 .nil
    | imm _ _ _ _ _ _ _ => obtain ⟨_, _, _, rfl, _⟩ := hv; exact .imm0 .nil
  · cases hc with
    | imm0 _ => simp at hn; omega
    | @imm _ _ ws _ _ cap _ ad hF hsp hu hl hcell hfl hr =>
      obtain ⟨h1, h2, ad2, rfl, had⟩ := hv
      have hne : cap ≠ lo := by omega
      obtain rfl := had.resolve_left hne
      have e : rows.flatten = (rows.take lo).flatten ++ (((rows.drop lo).take n).flatten ++ ((rows.drop lo).drop n).flatten) := by
        rw [← List.flatten_append, List.take_append_drop, ← List.flatten_append, List.take_append_drop]
      rw [e] at hfl
      obtain ⟨v1, v23, B1, B23, rfl, hB, c1, c23⟩ := CR.split hfl
      obtain ⟨rfl, rfl⟩ := List.append_eq_nil_iff.1 hB.symm
      obtain ⟨v2, v3, B2, B3, rfl, hB, c2, c3⟩ := CR.split c23
      obtain ⟨rfl, rfl⟩ := List.append_eq_nil_iff.1 hB.symm
      have hl1 : v1.length = lo * sz := by
        rw [← c1.len, flatten_len (fun r hr => hu r (List.mem_of_mem_take hr)), List.length_take, Nat.min_eq_left (by omega)]
      have hu2 : ∀ r ∈ (rows.drop lo).take n, r.length = sz := fun r hr => hu r (List.mem_of_mem_drop (List.mem_of_mem_take hr))
      have hlen : ((rows.drop lo).take n).length = n := by rw [List.length_take, List.length_drop]; omega
      obtain ⟨blk, off, sp⟩ := ad
      simp only at hsp hF hcell
      subst hsp
      rw [Option.map_some, add_none]
      have key := CR.imm (ad := ⟨blk, off + lo * sz, none⟩) (cap := cap - lo) (F := F) hF rfl hu2 (by rw [hlen]; omega) (ws := v2)
        (fun j x hx => by
          have hlt : j < v2.length := (List.getElem?_eq_some_iff.1 hx).1
          have := hcell (lo * sz + j) x (by rw [List.getElem?_append_right (by omega), List.getElem?_append_left (by omega), hl1]; simpa using hx)
          simpa [Nat.add_assoc] using this) c2 .nil
      rw [hlen] at key
      exact key

/-- What a callee is shown beside what was shown before. -/
def shown (F : FS) (h : Heap) (g : Gh) : FS := fun b => F b ∨ ∃ id t, h id = some t ∧ b ∈ g.fp id

theorem Inv.bor1 (I : Inv w0 F Lb w bx h g) {s : SV} {v : Value} {t : T} (hs : SR w F bx h g s v) (ho : s = .u → oc v = true) (he : bor1 h s = some t) : CR w (shown F h g) [t] [v] [] := by
  unfold AM.bor1 at he
  split at he
  · obtain rfl := Option.some.inj he
    exact .u v (ho rfl) .nil
  · rename_i t0
    obtain rfl := Option.some.inj he
    simp only [SR] at hs
    exact hs.freeze (F' := shown F h g) (fun b hb => .inl hb) (by simp)
  · rename_i id p s0 lo n
    split at he
    · rename_i sz rows hv
      obtain rfl := Option.some.inj he
      simp only [sview] at hv
      split at hv
      · rename_i sz' rows' hq
        split at hv
        · rename_i hlen
          obtain ⟨hlen, rfl⟩ := hlen
          obtain ⟨rfl, rfl⟩ := Prod.mk.inj (Option.some.inj hv)
          obtain ⟨t0, ht, hat⟩ := Option.bind_eq_some_iff.1 hq
          simp only [SR] at hs
          obtain ⟨_, t1, ht1, hs⟩ := hs
          rw [ht] at ht1
          obtain rfl := Option.some.inj ht1
          obtain ⟨hv, hh, hsub⟩ := hs _ hat
          obtain ⟨hs2, X, Bs, Y, hh2, hB, hcr, _⟩ := (I.ls id t0 ht).1.focus hat
          rw [hh] at hh2
          obtain rfl := Option.some.inj hh2
          have hf := hcr.freeze (F' := shown F h g) (fun b hb => .inl hb) (fun b hb => .inr ⟨id, t0, ht, by rw [hB]; simp [hb]⟩)
          simp only [fzL, T.fz] at hf
          have := hf.immSub (lo := lo) (n := n) (by rw [fzLL_len]; exact hlen) hsub
          rw [← fzLL_drop, ← fzLL_take] at this
          exact this
        · cases hv
      · cases hv
    · cases he
  · cases he

theorem Inv.borL (I : Inv w0 F Lb w bx h g) : ∀ {ss : List SV} {vs : List Value} {ss' : List SV}, SRL w F bx h g ss vs → (∀ v ∈ vs, oc v = true) → borL h ss = some ss' → ∀ bx' h' g', SRL w (shown F h g) bx' h' g' ss' vs
  | [], [], ss', _, _, he, _, _, _ => by
    simp only [AM.borL, Option.some.injEq] at he
    subst he
    trivial
  | s :: ss, v :: vs, ss', hs, ho, he, bx', h', g' => by
    simp only [AM.borL] at he
    split at he
    · rename_i t h1
      split at he
      · rename_i ts h2
        simp only [Option.some.injEq] at he
        subst he
        exact ⟨by simp only [SR]; exact I.bor1 hs.1 (fun _ => ho v List.mem_cons_self) h1, I.borL hs.2 (fun x hx => ho x (List.mem_cons_of_mem _ hx)) h2 bx' h' g'⟩
      · cases he
    · cases he
  | [], _ :: _, _, hh, _, _, _, _, _ => by cases hh
  | _ :: _, [], _, hh, _, _, _, _, _ => by cases hh
theorem Inv.borA (I : Inv w0 F Lb w bx h g) {s s' : SV} {v : Value} (hs : SR w F bx h g s v) (he : borA h s = some s') (bx' : BX) (h' : Heap) (g' : Gh) : SR w (shown F h g) bx' h' g' s' v := by
  unfold AM.borA at he
  split at he
  · rename_i cs
    split at he
    · rename_i ts h1
      obtain rfl := Option.some.inj he
      simp only [SR] at hs ⊢
      obtain ⟨arr, rfl, ho, hs⟩ := hs
      exact ⟨arr, rfl, ho, I.borL hs ho h1 bx' h' g'⟩
    · cases he
  · obtain rfl := Option.some.inj he
    simp [SR]
  · rename_i hna hnu
    split at he
    · rename_i t h1
      obtain rfl := Option.some.inj he
      simp only [SR]
      exact I.bor1 hs (fun e => absurd e hnu) h1
    · cases he
theorem Inv.borAs (I : Inv w0 F Lb w bx h g) : ∀ {ss : List SV} {vs : List Value} {ss' : List SV}, SRL w F bx h g ss vs → borAs h ss = some ss' → ∀ bx' h' g', SRL w (shown F h g) bx' h' g' ss' vs
  | [], [], ss', _, he, _, _, _ => by
    simp only [AM.borAs, Option.some.injEq] at he
    subst he
    trivial
  | s :: ss, v :: vs, ss', hs, he, bx', h', g' => by
    simp only [AM.borAs] at he
    split at he
    · rename_i t h1
      split at he
      · rename_i ts h2
        simp only [Option.some.injEq] at he
        subst he
        exact ⟨I.borA hs.1 h1 bx' h' g', I.borAs hs.2 h2 bx' h' g'⟩
      · cases he
    · cases he
  | [], _ :: _, _, hh, _, _, _, _ => by cases hh
  | _ :: _, [], _, hh, _, _, _, _ => by cases hh

theorem SRL.unCs : ∀ {ss : List SV} {vs : List Value} {ts : List T}, SRL w F bx h g ss vs → unCs ss = some ts → CR w F ts vs []
  | [], [], ts, _, he => by
    simp only [AM.unCs, Option.some.injEq] at he
    subst he
    exact .nil
  | s :: ss, v :: vs, ts, hs, he => by
    simp only [AM.unCs] at he
    split at he
    · rename_i t ts' h1 h2
      simp only [Option.some.injEq] at he
      subst he
      have h3 := SRL.unCs hs.2 h2
      have h4 : CR w F [t] [v] [] := by
        unfold unC at h1
        split at h1
        · obtain rfl := Option.some.inj h1
          simpa [SR] using hs.1
        · cases h1
      exact h4.single h3
    · cases he
  | [], _ :: _, _, hh, _ => by cases hh
  | _ :: _, [], _, hh, _ => by cases hh
theorem SR.unA {s : SV} {v : Value} {ts : List T} (hs : SR w F bx h g s v) (he : unA s = some ts) : CR w F ts v.cells.toList [] := by
  unfold AM.unA at he
  split at he
  · simp only [SR] at hs
    obtain ⟨arr, rfl, ho, hs⟩ := hs
    exact hs.unCs he
  · split at he
    · rename_i t h1
      obtain rfl := Option.some.inj he
      unfold unC at h1
      split at h1
      · obtain rfl := Option.some.inj h1
        simp only [SR] at hs
        rw [oc_cells (hs.oc v List.mem_cons_self)]
        exact hs
      · cases h1
    · cases he
theorem SR.pureA {s s' : SV} {v : Value} (hs : SR w F bx h g s v) (he : pureA s = some s') (bx' : BX) (h' : Heap) (g' : Gh) : SR w F bx' h' g' s' v := by
  unfold AM.pureA at he
  split at he
  · split at he
    · rename_i ts h1
      obtain rfl := Option.some.inj he
      simp only [SR] at hs ⊢
      obtain ⟨arr, rfl, ho, hs⟩ := hs
      exact ⟨arr, rfl, ho, SRL.ofCR ((hs.unCs h1).freeze (fun _ h => h) (by simp))⟩
    · cases he
  · obtain rfl := Option.some.inj he
    simp only [SR] at hs ⊢
    exact hs.freeze (fun _ h => h) (by simp)
  · obtain rfl := Option.some.inj he
    simp [SR]
  · cases he
theorem SRL.pureAs : ∀ {ss : List SV} {vs : List Value} {ss' : List SV}, SRL w F bx h g ss vs → pureAs ss = some ss' → ∀ bx' h' g', SRL w F bx' h' g' ss' vs
  | [], [], ss', _, he, _, _, _ => by
    simp only [AM.pureAs, Option.some.injEq] at he
    subst he
    trivial
  | s :: ss, v :: vs, ss', hs, he, bx', h', g' => by
    simp only [AM.pureAs] at he
    split at he
    · rename_i t ts h1 h2
      simp only [Option.some.injEq] at he
      subst he
      exact ⟨hs.1.pureA h1 bx' h' g', SRL.pureAs hs.2 h2 bx' h' g'⟩
    · cases he
  | [], _ :: _, _, hh, _, _, _, _ => by cases hh
  | _ :: _, [], _, hh, _, _, _, _ => by cases hh
end
end AM

namespace AM
open Go

section
variable {P : Program} {w0 w w' : World} {F F' : FS} {Lb : Lent} {bx bx' : BX} {h h' : Heap} {g g' : Gh} {σ : Nat → SV} {tmps : Array Value}

theorem opsM_cons {α β : Type} {f : α → Option β} {x : α} {xs : List α} {l : List β} (h : opsM f (x :: xs) = some l) : ∃ y ys, f x = some y ∧ opsM f xs = some ys ∧ l = y :: ys := by
  simp only [opsM] at h
  split at h
  · rename_i y ys h1 h2
    exact ⟨y, ys, h1, h2, (Option.some.inj h).symm⟩
  · cases h

theorem cellsM_CR (w : World) (F : FS) : ∀ {cs : List (Option Nat)} {vs : List Value} {ts : List T}, cs.length = vs.length → opsM cellT (cs.zip vs) = some ts → CR w F ts vs []
  | [], [], ts, _, he => by
    simp only [List.zip_nil_left, opsM, Option.some.injEq] at he
    subst he
    exact .nil
  | c :: cs, v :: vs, ts, hl, he => by
    rw [List.zip_cons_cons] at he
    obtain ⟨y, ys, h1, h2, rfl⟩ := opsM_cons he
    have h3 := cellsM_CR w F (by simpa using hl) h2
    unfold cellT at h1
    split at h1
    · rename_i sz e
      obtain ⟨rfl, rfl⟩ := Prod.mk.inj e
      obtain rfl := Option.some.inj h1
      exact .own0 h3
    · rename_i x e
      obtain ⟨rfl, rfl⟩ := Prod.mk.inj e
      split at h1
      · rename_i ho
        obtain rfl := Option.some.inj h1
        exact .v _ ho h3
      · cases h1
    · cases h1
  | [], _ :: _, _, hl, _ => by simp at hl
  | _ :: _, [], _, hl, _ => by simp at hl
theorem cells_CR (w : World) (F : FS) {cs : List (Option Nat)} {vs : List Value} {ts : List T} (he : cellsT cs vs = some ts) : CR w F ts vs [] := by
  unfold cellsT at he
  split at he
  · rename_i hl; exact cellsM_CR w F hl he
  · cases he

/-- A type's zero value. -/
theorem zeroT_spec {t : TypeId} {z : List T} (h : zeroT P t = some z) : ∃ i v, P.info? t = some i ∧ i.zero = some v ∧ ∀ w F, CR w F z v.cells.toList [] := by
  unfold zeroT at h
  split at h
  · rename_i cs v h1 h2
    obtain ⟨i, hi, hz⟩ := Option.bind_eq_some_iff.1 h2
    exact ⟨i, v, hi, hz, fun w F => cells_CR w F h⟩
  · cases h

theorem constS_spec (bx : BX) (h : Heap) (g : Gh) {t : TypeId} {v : Value} {s : SV} (he : constS P t v = some s) : SR w F bx h g s v := by
  unfold constS at he
  split at he
  · split at he
    · obtain rfl := Option.some.inj he
      simp only [SR]
      exact .own0 .nil
    · cases he
  · rename_i cs
    split at he
    · obtain ⟨l, hl, rfl⟩ := Option.map_eq_some_iff.1 he
      simp only [SR]
      have := cells_CR w F hl
      exact ⟨cs, rfl, this.oc, SRL.ofCR this⟩
    · cases he
  all_goals first
    | (cases he; done)
    | skip
  rename_i h1 h2 h3 h4 h5 h6 h7 h8 h9
  obtain rfl := Option.some.inj he
  simp only [SR]
  refine .v v ?_ .nil
  cases v <;> first | rfl | (exfalso; first | exact h2 _ rfl | exact h8 _ rfl)

theorem opd_spec {ty : TypeId} {x : Operand} {y : Opd} {a : Act} (hx : opdC P ty x = some y) (S : Sm w0 F Lb w ⟨σ, bx, h⟩ a.tmps g) : SR w F bx h g (y.ev σ) (a.eval x) := by
  cases x with
  | tmp n =>
    simp only [opdC, Option.some.injEq] at hx
    subst hx
    exact S.sl n
  | const v =>
    simp only [opdC] at hx
    obtain ⟨s, hs, rfl⟩ := Option.map_eq_some_iff.1 hx
    exact constS_spec bx h g hs
  | global _ => simp [opdC] at hx
  | func _ => simp [opdC] at hx

/-- What an operation comes to. -/
def OpOk (P : Program) (w0 : World) (F : FS) (Lb : Lent) (w : World) (σ : Nat → SV) (bx' : BX) (h' : Heap) (tmps : Array Value) (m : Sem Next) (sv : SV) : Prop :=
  ∃ v w' g', m.run P w = .ok (.value v) w' ∧ Sm w0 F Lb w' ⟨σ, bx', h'⟩ tmps g' ∧ SR w' F bx' h' g' sv v

theorem SR.scal' {v x : Value} (hs : SR w F bx h g (.c (.v x)) v) : v = x ∧ oc x = true := by
  simp only [SR] at hs
  cases hs with
  | v _ ho _ => exact ⟨rfl, ho⟩

theorem agg_some {b : Bool} {cs : List SV} {s : SV} (he : agg b cs = some s) : (b = true ∧ s = .a cs) ∨ (b = false ∧ cs = [s]) := by
  unfold agg at he
  cases b with
  | true => simp only [if_true, Option.some.injEq] at he; exact .inl ⟨rfl, he.symm⟩
  | false =>
    simp only [Bool.false_eq_true, if_false] at he
    split at he
    · obtain rfl := Option.some.inj he; exact .inr ⟨rfl, rfl⟩
    · cases he

theorem isAggB_run {t : TypeId} {d : TypeDesc} (hu : P.underlying t = some d) (w : World) : (isAgg t).run P w = .ok (isAggB P t) w := by
  unfold isAgg
  rw [Sem.run_bind, run_underlying hu w]
  simp only [Result.andThen_ok, isAggB, hu]
  cases d <;> rfl

/-- A variable is read: its cells lie there. -/
theorem loadVar_run {t : TypeId} {b o : Nat} {cs : List Value} {d : TypeDesc} (hu : P.underlying t = some d) (hi : (P.info? t).map (·.size) = some cs.length) (hc : w.rangeAt b o cs) :
    (isAggB P t = true → (loadVar t ⟨b, o, none⟩).run P w = .ok (.agg cs.toArray) w) ∧ (isAggB P t = false → ∀ v, cs = [v] → (loadVar t ⟨b, o, none⟩).run P w = .ok v w) := by
  constructor
  · intro ha
    refine run_loadVar_mid w b o t cs d hc hu ?_ hi
    simp only [isAggB, hu] at ha
    cases d <;> first | rfl | cases ha
  · rintro ha v rfl
    have h1 := isAggB_run hu w
    rw [ha] at h1
    unfold loadVar
    rw [Sem.run_bind, h1]
    have h2 := hc 0 v rfl
    rw [Nat.add_zero] at h2
    simp [h2]
end
end AM

namespace AM
open Go

section
variable {P : Program} {w0 w w' : World} {F F' : FS} {Lb : Lent} {bx bx' : BX} {h h' : Heap} {g g' : Gh} {σ : Nat → SV} {a : Act} {o : Go.Oper}

theorem snd_mv {x : Operand} {y : Opd} (ho : o.op = .move x ∨ o.op = .assign x) (hx : opdC P o.type x = some y) (S : Sm w0 F Lb w ⟨σ, bx, h⟩ a.tmps g) :
    OpOk P w0 F Lb w σ bx h a.tmps (execOp a.eval o) (y.ev σ) := by
  refine ⟨a.eval x, w, g, ?_, S, opd_spec hx S⟩
  rcases ho with ho | ho <;> simp [execOp, ho]

theorem snd_nil {x : Operand} {y : Opd} {id : Id} {f : Nat} (ho : o.op = .nilCheck x) (hx : opdC P 0 x = some y) (S : Sm w0 F Lb w ⟨σ, bx, h⟩ a.tmps g) (hy : y.ev σ = .b id f) :
    OpOk P w0 F Lb w σ bx h a.tmps (execOp a.eval o) (.b id f) := by
  have h1 := opd_spec hx S
  rw [hy] at h1
  have h2 := h1
  simp only [SR] at h1
  obtain ⟨_, h1⟩ := h1
  refine ⟨a.eval x, w, g, ?_, S, h2⟩
  simp [execOp, ho, h1]

theorem snd_pick {c p q : Operand} {c' p' q' : Opd} {t : Bool} (ho : o.op = .pick c p q) (h1 : opdC P 0 c = some c') (h2 : opdC P o.type p = some p') (h3 : opdC P o.type q = some q') (S : Sm w0 F Lb w ⟨σ, bx, h⟩ a.tmps g)
    (hc : c'.ev σ = .c (.v (.bool t))) : OpOk P w0 F Lb w σ bx h a.tmps (execOp a.eval o) (if t then p'.ev σ else q'.ev σ) := by
  have k := opd_spec h1 S
  rw [hc] at k
  have e := k.scal'.1
  refine ⟨if t then a.eval p else a.eval q, w, g, ?_, S, ?_⟩
  · simp [execOp, ho, e, asBool]
  · cases t
    · exact opd_spec h3 S
    · exact opd_spec h2 S

theorem isOc_oc {v : Value} (h : isOc v = true) : oc v = true := by cases v <;> first | rfl | cases h
theorem binOp_int (op : BinOp) (t : TypeId) (k k' : IntKind) (a b : Int) : Go.binOp op t (.int k a) (.int k' b) = Go.binOp op 0 (.int k a) (.int k' b) := by cases op <;> rfl
theorem binOp_str (op : BinOp) (t : TypeId) (a b : ByteArray) : Go.binOp op t (.string a) (.string b) = Go.binOp op 0 (.string a) (.string b) := by cases op <;> rfl
theorem abin_run {op : BinOp} {t : TypeId} {x y : Operand} {p q v : Value} (h : abin op p q = some v) : (eqGuard op t x y p q).run P w = .ok () w ∧ (Go.binOp op t p q).run P w = .ok v w ∧ oc v = true := by
  unfold abin at h
  split at h
  · split at h
    · rename_i hb
      split at h
      · rename_i hoc
        obtain rfl := Option.some.inj h
        refine ⟨by cases op <;> simp [eqGuard], ?_, isOc_oc hoc⟩
        rw [binOp_int, hb]; rfl
      · cases h
    · cases h
  · split at h
    · rename_i hb
      split at h
      · rename_i hoc
        obtain rfl := Option.some.inj h
        refine ⟨by cases op <;> simp [eqGuard], ?_, isOc_oc hoc⟩
        rw [binOp_str, hb]; rfl
      · cases h
    · cases h
  · cases h

theorem SR.of_scal {v : Value} (ho : oc v = true) : SR w F bx h g (.c (.v v)) v := by simp only [SR]; exact .v v ho .nil

theorem snd_bin {op : BinOp} {t t2 : TypeId} {x y : Operand} {x' y' : Opd} {p q v : Value} (ho : o.op = .binOp op t x y t2) (h1 : opdC P t x = some x') (h2 : opdC P t y = some y') (S : Sm w0 F Lb w ⟨σ, bx, h⟩ a.tmps g)
    (hx : x'.ev σ = .c (.v p)) (hy : y'.ev σ = .c (.v q)) (hv : abin op p q = some v) : OpOk P w0 F Lb w σ bx h a.tmps (execOp a.eval o) (.c (.v v)) := by
  have k1 := opd_spec h1 S; rw [hx] at k1
  have k2 := opd_spec h2 S; rw [hy] at k2
  obtain ⟨e1, e2, e3⟩ := abin_run (P := P) (w := w) (t := t) (x := x) (y := y) hv
  refine ⟨v, w, g, ?_, S, .of_scal e3⟩
  simp only [execOp, ho, k1.scal'.1, k2.scal'.1, Sem.run_bind, e1, e2, Result.andThen_ok, Sem.run_pure]

theorem snd_binb {ng : Bool} {op : BinOp} {t t2 : TypeId} {x y : Operand} {x' y' : Opd} {p q : Bool} (ho : o.op = .binOp op t x y t2) (hop : (op = .eql ∧ ng = false) ∨ (op = .neq ∧ ng = true)) (hu : P.underlying t = some .bool)
    (h1 : opdC P t x = some x') (h2 : opdC P t y = some y') (S : Sm w0 F Lb w ⟨σ, bx, h⟩ a.tmps g)
    (hx : x'.ev σ = .c (.v (.bool p))) (hy : y'.ev σ = .c (.v (.bool q))) : OpOk P w0 F Lb w σ bx h a.tmps (execOp a.eval o) (.c (.v (.bool ((p == q) != ng)))) := by
  have k1 := opd_spec h1 S; rw [hx] at k1
  have k2 := opd_spec h2 S; rw [hy] at k2
  refine ⟨.bool ((p == q) != ng), w, g, ?_, S, .of_scal rfl⟩
  have e : (Op.equal t (.bool p) (.bool q)).run P w = .ok (p == q) w := by
    unfold Op.equal Op.maxDepth Op.equalIn
    simp [run_underlying hu]
  rcases hop with ⟨rfl, rfl⟩ | ⟨rfl, rfl⟩
  · simp [execOp, ho, k1.scal'.1, k2.scal'.1, eqGuard, Go.binOp, e]
  · simp [execOp, ho, k1.scal'.1, k2.scal'.1, eqGuard, Go.binOp, e]

theorem snd_un {op : UnOp} {t : TypeId} {x : Operand} {x' : Opd} {p v : Value} (ho : o.op = .unOp op t x) (h1 : opdC P t x = some x') (S : Sm w0 F Lb w ⟨σ, bx, h⟩ a.tmps g)
    (hx : x'.ev σ = .c (.v p)) (hv : aun op p = some v) : OpOk P w0 F Lb w σ bx h a.tmps (execOp a.eval o) (.c (.v v)) := by
  have k1 := opd_spec h1 S; rw [hx] at k1
  unfold aun at hv
  split at hv
  · obtain rfl := Option.some.inj hv
    refine ⟨_, w, g, ?_, S, .of_scal rfl⟩
    simp [execOp, ho, k1.scal'.1, Op.unary]
  · cases hv

theorem snd_cvi {s t : TypeId} {k k0 k1 : IntKind} {n : Int} {x : Operand} {x' : Opd} (ho : o.op = .convert s t x) (hs : P.underlying s = some (.int k0)) (ht : P.underlying t = some (.int k)) (h1 : opdC P 0 x = some x') (S : Sm w0 F Lb w ⟨σ, bx, h⟩ a.tmps g)
    (hx : x'.ev σ = .c (.v (.int k1 n))) : OpOk P w0 F Lb w σ bx h a.tmps (execOp a.eval o) (.c (.v (.int k (k.wrap n)))) := by
  have e1 := opd_spec h1 S; rw [hx] at e1
  refine ⟨_, w, g, ?_, S, .of_scal rfl⟩
  simp [execOp, ho, e1.scal'.1, convert, run_underlying hs, run_underlying ht, Conv.intToInt]

theorem snd_max {t t2 : TypeId} {args : Array Operand} {ats : Array TypeId} {x y : Operand} {x' y' : Opd} {k k' : IntKind} {p q : Int} (ho : o.op = .call { callee := .builtin .max, args := args, argTypes := ats }) (ha : args.toList = [x, y])
    (h1 : opdC P t x = some x') (h2 : opdC P t2 y = some y') (S : Sm w0 F Lb w ⟨σ, bx, h⟩ a.tmps g)
    (hx : x'.ev σ = .c (.v (.int k p))) (hy : y'.ev σ = .c (.v (.int k' q))) : OpOk P w0 F Lb w σ bx h a.tmps (execOp a.eval o) (.c (.v (.int k (if q > p then q else p)))) := by
  have k1 := opd_spec h1 S; rw [hx] at k1
  have k2 := opd_spec h2 S; rw [hy] at k2
  obtain rfl : args = #[x, y] := by cases args; simp_all
  refine ⟨_, w, g, ?_, S, .of_scal rfl⟩
  simp [execOp, ho, resolve, invoke, builtin, Builtin.max_, Builtin.max2, k1.scal'.1, k2.scal'.1]

theorem snd_ext {x : Operand} {x' : Opd} {i : Nat} {vs : List SV} {s : SV} (ho : o.op = .extract x i) (h1 : opdC P 0 x = some x') (S : Sm w0 F Lb w ⟨σ, bx, h⟩ a.tmps g)
    (hx : x'.ev σ = .t vs) (hi : vs[i]? = some s) : OpOk P w0 F Lb w σ bx h a.tmps (execOp a.eval o) s := by
  have k1 := opd_spec h1 S; rw [hx] at k1
  simp only [SR] at k1
  obtain ⟨arr, e, k1⟩ := k1
  obtain ⟨v, hv, hs⟩ := k1.get hi
  refine ⟨v, w, g, ?_, S, hs⟩
  have hv' : arr[i]? = some v := by simpa using hv
  simp [execOp, ho, e, Instr.extract, hv']

theorem snd_ixs {t : TypeId} {x i : Operand} {x' i' : Opd} {s : ByteArray} {k : IntKind} {n : Int} {b : UInt8} (ho : o.op = .index t x i) (hu : P.underlying t = some .string) (h1 : opdC P 0 x = some x') (h2 : opdC P 0 i = some i') (S : Sm w0 F Lb w ⟨σ, bx, h⟩ a.tmps g)
    (hx : x'.ev σ = .c (.v (.string s))) (hi : i'.ev σ = .c (.v (.int k n))) (hn : 0 ≤ n) (hb : s[n.toNat]? = some b) : OpOk P w0 F Lb w σ bx h a.tmps (execOp a.eval o) (.c (.v (.int .u8 b.toNat))) := by
  have k1 := opd_spec h1 S; rw [hx] at k1
  have k2 := opd_spec h2 S; rw [hi] at k2
  refine ⟨_, w, g, ?_, S, .of_scal rfl⟩
  simp [execOp, ho, k1.scal'.1, k2.scal'.1, Instr.index, asIntOf, run_underlying hu, hn, hb]
end
end AM

namespace AM
open Go

section
variable {P : Program} {w0 w w' : World} {F F' : FS} {Lb : Lent} {bx bx' : BX} {h h' : Heap} {g g' : Gh} {σ : Nat → SV} {a : Act} {o : Go.Oper}

theorem szC_spec {t : TypeId} {b : Bool} {k : Nat} (h : szC P t = some (b, k)) : ∃ d i, P.underlying t = some d ∧ P.info? t = some i ∧ i.size = k ∧ b = isAggB P t := by
  unfold szC at h
  split at h
  · rename_i d i h1 h2
    obtain ⟨rfl, rfl⟩ := Prod.mk.inj (Option.some.inj h)
    exact ⟨d, i, h1, h2, rfl, rfl⟩
  · cases h
theorem sizeOf_run {t : TypeId} {i : TypeInfo} (h : P.info? t = some i) (w : World) : (Go.sizeOf t).run P w = .ok i.size w := by
  simp [Go.sizeOf, typeInfo, h]
theorem sliceElem_spec {t e : TypeId} {k : Nat} (h : sliceElem P t = some (e, k)) : P.underlying t = some (.slice e) ∧ ∃ d i, P.underlying e = some d ∧ P.info? e = some i ∧ i.size = k := by
  unfold sliceElem at h
  split at h
  · rename_i e' hu
    split at h
    · rename_i b k' hs
      obtain ⟨rfl, rfl⟩ := Prod.mk.inj (Option.some.inj h)
      obtain ⟨d, i, h1, h2, h3, _⟩ := szC_spec hs
      exact ⟨hu, d, i, h1, h2, h3⟩
    · cases h
  · cases h
theorem fieldOf_spec {s : TypeId} {f : Nat} {fl : Field} {b : Bool} {k : Nat} (h : fieldOf P s f = some (fl, b, k)) : ∃ fs d i, P.underlying s = some (.struct fs) ∧ fs[f]? = some fl ∧ P.underlying fl.type = some d ∧ P.info? fl.type = some i ∧ i.size = k ∧ b = isAggB P fl.type := by
  unfold fieldOf at h
  split at h
  · rename_i fs hu
    split at h
    · rename_i x hx
      split at h
      · rename_i b' k' hs
        simp only [Option.some.injEq, Prod.mk.injEq] at h
        obtain ⟨rfl, rfl, rfl⟩ := h
        obtain ⟨d, i, h1, h2, h3, h4⟩ := szC_spec hs
        exact ⟨fs, d, i, hu, hx, h1, h2, h3, h4⟩
      · cases h
    · cases h
  · cases h

theorem snd_fld {s : TypeId} {x : Operand} {f k : Nat} {fl : Field} {ag : Bool} {x' : Opd} {sv : SV} (ho : o.op = .fieldAddr s x f) (hf : fieldOf P s f = some (fl, ag, k)) (hk : k ≠ 0) (h1 : opdC P 0 x = some x') (S : Sm w0 F Lb w ⟨σ, bx, h⟩ a.tmps g)
    (hr : (∃ id p z i c, x'.ev σ = .p id p z i c ∧ sv = .p id p z i (c + fl.offset)) ∨ (∃ id c, x'.ev σ = .b id c ∧ sv = .b id (c + fl.offset)) ∨ (∃ row c, x'.ev σ = .q row c ∧ sv = .q row (c + fl.offset))) :
    OpOk P w0 F Lb w σ bx h a.tmps (execOp a.eval o) sv := by
  have k1 := opd_spec h1 S
  obtain ⟨fs, d, i, hu, hx, hd, hi, hsz, _⟩ := fieldOf_spec hf
  have run : ∀ b c, a.eval x = .pointer (some ⟨b, c, none⟩) → (execOp a.eval o).run P w = .ok (.value (.pointer (some ⟨b, c + fl.offset, none⟩))) w := by
    intro b c he
    simp [execOp, ho, he, Instr.fieldAt, Instr.sureAddr, run_underlying hu, hx, fieldPlace, sizeOf_run hi, hsz, hk, add_none]
  rcases hr with ⟨id, p, z, i0, c, he, rfl⟩ | ⟨id, c, he, rfl⟩ | ⟨row, c, he, rfl⟩
  · rw [he] at k1
    simp only [SR] at k1
    obtain ⟨⟨b, c0, hp⟩, t, ht, k1⟩ := k1
    refine ⟨_, w, g, run _ _ hp, S, ?_⟩
    simp only [SR]
    refine ⟨⟨_, _, rfl⟩, t, ht, fun rows hat hlt => ?_⟩
    obtain ⟨b', n, cap, hh, hv⟩ := k1 rows hat hlt
    refine ⟨b', n, cap, hh, ?_⟩
    rw [hp] at hv
    injection hv with hv
    injection hv with hv
    injection hv with e1 e2 _
    subst e1 e2
    rw [Nat.add_assoc]
  · rw [he] at k1
    simp only [SR] at k1
    obtain ⟨h2, hp⟩ := k1
    refine ⟨_, w, g, run _ _ hp, S, ?_⟩
    simp only [SR]
    exact ⟨h2, trivial⟩
  · rw [he] at k1
    simp only [SR] at k1
    obtain ⟨ad, ws, h2, h3, hp, h4, h5⟩ := k1
    refine ⟨_, w, g, run _ _ hp, S, ?_⟩
    simp only [SR]
    exact ⟨ad, ws, h2, h3, by rw [Nat.add_assoc], h4, h5⟩

/-- Cells of a value, as the model takes them. -/
theorem part_run {t : TypeId} {d : TypeDesc} {i : TypeInfo} {f k : Nat} {arr : Array Value} (hd : P.underlying t = some d) (hi : P.info? t = some i) (hk : i.size = k) (hlt : f + k ≤ arr.size) (w : World) :
    (isAggB P t = true → (part t arr f).run P w = .ok (.agg (arr.extract f (f + k))) w) ∧ (isAggB P t = false → ∀ v, (arr.toList.drop f).take k = [v] → (part t arr f).run P w = .ok v w) := by
  have h1 := isAggB_run hd w
  constructor
  · intro ha
    rw [ha] at h1
    simp [part, h1, sizeOf_run hi, hk]
  · intro ha v hv
    rw [ha] at h1
    have hl : k = 1 := by
      have := congrArg List.length hv
      simp at this
      omega
    subst hl
    have : arr[f]? = some v := by
      have h2 : ((arr.toList.drop f).take 1)[0]? = some v := by rw [hv]; rfl
      rw [List.getElem?_take] at h2
      simpa using h2
    simp [part, h1, this]
theorem snd_part {s : TypeId} {x : Operand} {f k : Nat} {fl : Field} {ag : Bool} {x' : Opd} {cs : List SV} {sv : SV} (ho : o.op = .field s x f) (hf : fieldOf P s f = some (fl, ag, k)) (h1 : opdC P s x = some x') (S : Sm w0 F Lb w ⟨σ, bx, h⟩ a.tmps g)
    (hx : x'.ev σ = .a cs) (hl : fl.offset + k ≤ cs.length) (hr : agg ag ((cs.drop fl.offset).take k) = some sv) : OpOk P w0 F Lb w σ bx h a.tmps (execOp a.eval o) sv := by
  have k1 := opd_spec h1 S
  rw [hx] at k1
  simp only [SR] at k1
  obtain ⟨arr, he, hoc, hs⟩ := k1
  obtain ⟨fs, d, i, hu, hfx, hd, hi, hsz, rfl⟩ := fieldOf_spec hf
  have hlen : cs.length = arr.size := by simpa using hs.len
  obtain ⟨p1, p2⟩ := part_run hd hi hsz (f := fl.offset) (arr := arr) (by omega) w
  have hs2 := (hs.drop fl.offset).take k
  rcases agg_some hr with ⟨ha, rfl⟩ | ⟨ha, hcs⟩
  · refine ⟨.agg (arr.extract fl.offset (fl.offset + k)), w, g, ?_, S, ?_⟩
    · simp only [execOp, ho, he, Instr.field, Sem.run_bind, run_underlying hu, Result.andThen_ok, hfx, asAgg, Sem.run_pure, p1 ha]
    · simp only [SR]
      refine ⟨_, rfl, ?_, ?_⟩
      · intro y hy
        simp at hy
        exact hoc y (by
          have := List.mem_of_mem_drop (List.mem_of_mem_take hy)
          simpa using this)
      · have : (arr.extract fl.offset (fl.offset + k)).toList = (arr.toList.drop fl.offset).take k := by simp
        rw [this]; exact hs2
  · rw [hcs] at hs2
    have hl2 := hs2.len
    obtain ⟨v, hv⟩ : ∃ v, (arr.toList.drop fl.offset).take k = [v] := by
      match hq : (arr.toList.drop fl.offset).take k with
      | [] => rw [hq] at hl2; simp at hl2
      | [v] => exact ⟨v, rfl⟩
      | _ :: _ :: _ => rw [hq] at hl2; simp at hl2
    rw [hv] at hs2
    refine ⟨v, w, g, ?_, S, hs2.1⟩
    simp only [execOp, ho, he, Instr.field, Sem.run_bind, run_underlying hu, Result.andThen_ok, hfx, asAgg, Sem.run_pure, p2 ha v hv]

theorem snd_lens {t : TypeId} {x : Operand} {args : Array Operand} {ats : Array TypeId} {x' : Opd} {s : ByteArray} (ho : o.op = .call { callee := .builtin .len, args := args, argTypes := ats }) (ha : args.toList = [x]) (hat : ats.toList = [t])
    (hu : P.underlying t = some .string) (h1 : opdC P t x = some x') (S : Sm w0 F Lb w ⟨σ, bx, h⟩ a.tmps g) (hx : x'.ev σ = .c (.v (.string s))) : OpOk P w0 F Lb w σ bx h a.tmps (execOp a.eval o) (.c (.v (.int .i64 s.size))) := by
  have k1 := opd_spec h1 S
  rw [hx] at k1
  obtain rfl : args = #[x] := by cases args; simp_all
  obtain rfl : ats = #[t] := by cases ats; simp_all
  refine ⟨.int .i64 s.size, w, g, ?_, S, .of_scal rfl⟩
  simp [execOp, ho, resolve, invoke, builtin, Builtin.len_, run_underlying hu, k1.scal'.1, goInt]
theorem slen_look {s : SV} {n : Nat} {v : Value} (hs : SR w F bx h g s v) (hn : slen s = some n) : ∃ ad cap, v = .slice ad n cap := by
  unfold slen at hn
  split at hn
  · obtain rfl := Option.some.inj hn
    simp only [SR] at hs
    cases hs with
    | imm0 _ => exact ⟨_, _, rfl⟩
    | imm _ _ _ _ _ _ _ => exact ⟨_, _, rfl⟩
    | own0 _ => exact ⟨_, _, rfl⟩
  · obtain rfl := Option.some.inj hn
    simp only [SR] at hs
    obtain ⟨⟨ad, cap, hv, _⟩, _⟩ := hs
    exact ⟨ad, cap, hv⟩
  · cases hn
theorem snd_len {t e : TypeId} {x : Operand} {args : Array Operand} {ats : Array TypeId} {x' : Opd} {n : Nat} (ho : o.op = .call { callee := .builtin .len, args := args, argTypes := ats }) (ha : args.toList = [x]) (hat : ats.toList = [t])
    (hu : P.underlying t = some (.slice e)) (h1 : opdC P t x = some x') (S : Sm w0 F Lb w ⟨σ, bx, h⟩ a.tmps g) (hn : slen (x'.ev σ) = some n) :
    OpOk P w0 F Lb w σ bx h a.tmps (execOp a.eval o) (.c (.v (.int .i64 n))) := by
  obtain ⟨ad, cap, hsl⟩ := slen_look (opd_spec h1 S) hn
  obtain rfl : args = #[x] := by cases args; simp_all
  obtain rfl : ats = #[t] := by cases ats; simp_all
  refine ⟨.int .i64 n, w, g, ?_, S, .of_scal rfl⟩
  simp [execOp, ho, resolve, invoke, builtin, Builtin.len_, run_underlying hu, hsl, goInt]

theorem snd_ixa {t e : TypeId} {x i : Operand} {x' i' : Opd} {k : Nat} {ki : IntKind} {n : Int} {sv : SV} (ho : o.op = .indexAddr t x i) (he : sliceElem P t = some (e, k)) (h1 : opdC P 0 x = some x') (h2 : opdC P 0 i = some i') (S : Sm w0 F Lb w ⟨σ, bx, h⟩ a.tmps g)
    (hi : i'.ev σ = .c (.v (.int ki n))) (hn : 0 ≤ n)
    (hr : (∃ ow rows row, x'.ev σ = .c (.l ow k rows) ∧ rows[n.toNat]? = some row ∧ sv = .q row 0) ∨ (∃ id p lo m, x'.ev σ = .r id p k lo m ∧ n < m ∧ sv = .p id p k (lo + n.toNat) 0)) :
    OpOk P w0 F Lb w σ bx h a.tmps (execOp a.eval o) sv := by
  have k1 := opd_spec h1 S
  have k2 := opd_spec h2 S
  rw [hi] at k2
  obtain ⟨hu, d, inf, hd, hinf, hsz⟩ := sliceElem_spec he
  have run : ∀ b c len cap, a.eval x = .slice (some ⟨b, c, none⟩) len cap → n < len → (execOp a.eval o).run P w = .ok (.value (.pointer (some ⟨b, c + n.toNat * k, none⟩))) w := by
    intro b c len cap hx hlt
    simp [execOp, ho, hx, k2.scal'.1, Instr.indexAt, asIntOf, run_underlying hu, sizeOf_run hinf, hsz, hn, hlt, add_none]
  rcases hr with ⟨ow, rows, row, hx, hrow, rfl⟩ | ⟨id, p, lo, m, hx, hlt, rfl⟩
  · rw [hx] at k1
    simp only [SR] at k1
    have hlt : n.toNat < rows.length := (List.getElem?_eq_some_iff.1 hrow).1
    generalize hv : a.eval x = v at k1
    cases k1 with
    | imm0 _ => simp at hrow
    | own0 _ => simp at hrow
    | @imm _ _ ws _ _ cap _ ad hF hsp huni hl hcell hfl _ =>
      obtain ⟨blk, off, sp⟩ := ad
      simp only at hsp hF hcell
      subst hsp
      refine ⟨_, w, g, run _ _ _ _ hv (by omega), S, ?_⟩
      simp only [SR]
      have hfl2 : rows.flatten = (rows.take n.toNat).flatten ++ (row ++ (rows.drop (n.toNat + 1)).flatten) := by
        conv => lhs; rw [← List.take_append_drop n.toNat rows]
        rw [List.flatten_append]
        congr 1
        rw [List.drop_eq_getElem_cons hlt, List.flatten_cons]
        have : rows[n.toNat] = row := (List.getElem?_eq_some_iff.1 hrow).2
        rw [this]
      rw [hfl2] at hfl
      obtain ⟨v1, v23, B1, B23, rfl, hB, c1, c23⟩ := CR.split hfl
      obtain ⟨rfl, rfl⟩ := List.append_eq_nil_iff.1 hB.symm
      obtain ⟨v2, v3, B2, B3, rfl, hB, c2, c3⟩ := CR.split c23
      obtain ⟨rfl, rfl⟩ := List.append_eq_nil_iff.1 hB.symm
      have hl1 : v1.length = n.toNat * k := by
        rw [← c1.len, flatten_len (fun r hr => huni r (List.mem_of_mem_take hr)), List.length_take, Nat.min_eq_left (by omega)]
      refine ⟨⟨blk, off + n.toNat * k, none⟩, v2, hF, rfl, by simp, fun j y hy => ?_, c2⟩
      have hj : j < v2.length := (List.getElem?_eq_some_iff.1 hy).1
      have := hcell (n.toNat * k + j) y (by rw [List.getElem?_append_right (by omega), List.getElem?_append_left (by omega), hl1]; simpa using hy)
      simpa [Nat.add_assoc] using this
  · rw [hx] at k1
    simp only [SR] at k1
    obtain ⟨⟨ad, cap, hv, hcap, hpos⟩, t0, ht, k1⟩ := k1
    obtain ⟨b, c, rfl⟩ := hpos (by omega)
    refine ⟨_, w, g, run _ _ _ _ hv hlt, S, ?_⟩
    simp only [SR]
    refine ⟨⟨_, _, rfl⟩, t0, ht, fun rows hat hi2 => ?_⟩
    obtain ⟨hv0, hh, hsub⟩ := k1 rows hat
    obtain ⟨hs, X, Bs, Y, hh2, hB, hcr, _⟩ := (S.inv.ls id t0 ht).1.focus hat
    rw [hh] at hh2
    obtain rfl := Option.some.inj hh2
    cases hcr with
    | own0 _ => simp at hi2
    | @own _ _ B1 B2 _ cap2 b2 _ arr el hb huni hl hsz2 hcells _ =>
      obtain ⟨q1, q2, ad2, hv2, hq⟩ := hsub
      refine ⟨b2, _, _, hh, ?_⟩
      rw [hv] at hv2
      injection hv2 with e1 e2 e3
      rcases hq with hq | hq
      · omega
      · rw [Option.map_some, add_none] at hq
        rw [← e1] at hq
        injection hq with hq
        injection hq with e4 e5 _
        subst e4 e5
        congr 3
        rw [Nat.add_mul]; omega
end
end AM

namespace AM
open Go

section
variable {P : Program} {w0 w w' : World} {F F' : FS} {Lb : Lent} {bx bx' : BX} {h h' : Heap} {g g' : Gh} {σ : Nat → SV} {a : Act} {o : Go.Oper}

theorem add_add (x : Addr) (m n : Nat) : (x.add m).add n = x.add (m + n) := by
  unfold Addr.add
  by_cases h1 : m = 0
  · simp [h1]
  · by_cases h2 : n = 0
    · simp [h2]
    · simp [h1, h2, Nat.add_assoc]

theorem sliceBound_run {k : IntKind} {i : Int} {y : Nat} {c : BoundsCode} (h0 : 0 ≤ i) (h1 : i ≤ y) (w : World) : (Instr.sliceBound (.int k i) y c).run P w = .ok i.toNat w := by
  simp [Instr.sliceBound, asIntOf, h0, h1]
theorem oint_spec {x : Option Operand} {x' : Option Opd} {d n : Int} (hx : optC P x = some x') (S : Sm w0 F Lb w ⟨σ, bx, h⟩ a.tmps g) (hn : ointOf σ d x' = some n) : (x = none ∧ n = d) ∨ ∃ y k, x = some y ∧ a.eval y = .int k n := by
  cases x with
  | none =>
    simp only [optC, Option.some.injEq] at hx
    subst hx
    simp only [ointOf, Option.some.injEq] at hn
    exact .inl ⟨rfl, hn.symm⟩
  | some y =>
    simp only [optC] at hx
    obtain ⟨y', hy, rfl⟩ := Option.map_eq_some_iff.1 hx
    simp only [ointOf] at hn
    have k1 := opd_spec hy S
    unfold intOf at hn
    split at hn
    · rename_i k m he
      obtain rfl := Option.some.inj hn
      rw [he] at k1
      exact .inr ⟨y, k, rfl, k1.scal'.1⟩
    · cases hn

theorem bounds_run {sl : Bool} {len cap : Nat} {lo hi : Option Operand} {l m : Int} (hl : (lo = none ∧ l = 0) ∨ ∃ y k, lo = some y ∧ a.eval y = .int k l) (hm : (hi = none ∧ m = len) ∨ ∃ y k, hi = some y ∧ a.eval y = .int k m)
    (h0 : 0 ≤ l) (h1 : l ≤ m) (h2 : m ≤ cap) (w : World) : (Instr.sliceBounds sl len cap (lo.map a.eval) (hi.map a.eval) none).run P w = .ok (l.toNat, m.toNat, cap) w := by
  have hm0 : 0 ≤ m := by omega
  have hlm : l ≤ (m.toNat : Int) := by omega
  unfold Instr.sliceBounds
  rcases hl with ⟨rfl, rfl⟩ | ⟨y, k, rfl, e⟩ <;> rcases hm with ⟨rfl, rfl⟩ | ⟨y2, k2, rfl, e2⟩
  · simp
  · simp [e2, sliceBound_run hm0 h2]
  · simp [e, sliceBound_run h0 h1]
  · simp [e, e2, sliceBound_run hm0 h2, sliceBound_run h0 hlm]

theorem snd_slcs {t : TypeId} {x : Operand} {lo hi : Option Operand} {x' : Opd} {lo' hi' : Option Opd} {s : ByteArray} {l m : Int} (ho : o.op = .slice t x lo hi none) (hu : P.underlying t = some .string)
    (h1 : opdC P t x = some x') (h2 : optC P lo = some lo') (h3 : optC P hi = some hi') (S : Sm w0 F Lb w ⟨σ, bx, h⟩ a.tmps g)
    (hx : x'.ev σ = .c (.v (.string s))) (hl : ointOf σ 0 lo' = some l) (hm : ointOf σ s.size hi' = some m) (h0 : 0 ≤ l) (hlm : l ≤ m) (hms : m ≤ s.size) :
    OpOk P w0 F Lb w σ bx h a.tmps (execOp a.eval o) (.c (.v (.string (s.extract l.toNat m.toNat)))) := by
  have k1 := opd_spec h1 S
  rw [hx] at k1
  have e := bounds_run (P := P) (sl := false) (oint_spec h2 S hl) (oint_spec h3 S hm) h0 hlm hms w
  refine ⟨_, w, g, ?_, S, .of_scal rfl⟩
  simp [execOp, ho, k1.scal'.1, Instr.sliceAt, run_underlying hu, Instr.slice, e]

theorem snd_slc {t e : TypeId} {k : Nat} {x : Operand} {lo hi : Option Operand} {x' : Opd} {lo' hi' : Option Opd} {l m : Int} {sv : SV} (ho : o.op = .slice t x lo hi none) (he : sliceElem P t = some (e, k))
    (h1 : opdC P t x = some x') (h2 : optC P lo = some lo') (h3 : optC P hi = some hi') (S : Sm w0 F Lb w ⟨σ, bx, h⟩ a.tmps g)
    (hr : (∃ ow rows, x'.ev σ = .c (.l ow k rows) ∧ ointOf σ rows.length hi' = some m ∧ m ≤ rows.length ∧ sv = .c (.l ow k ((rows.drop l.toNat).take (m.toNat - l.toNat)))) ∨
      (∃ id p lo0 n, x'.ev σ = .r id p k lo0 n ∧ ointOf σ n hi' = some m ∧ m ≤ n ∧ sv = .r id p k (lo0 + l.toNat) (m.toNat - l.toNat)))
    (hl : ointOf σ 0 lo' = some l) (h0 : 0 ≤ l) (hlm : l ≤ m) : OpOk P w0 F Lb w σ bx h a.tmps (execOp a.eval o) sv := by
  have k1 := opd_spec h1 S
  obtain ⟨hu, d, inf, hd, hinf, hsz⟩ := sliceElem_spec he
  have run : ∀ (ad : Option Addr) (len cap : Nat), a.eval x = .slice ad len cap → ointOf σ len hi' = some m → m ≤ cap →
      (execOp a.eval o).run P w = .ok (.value (.slice (if cap = l.toNat then ad else ad.map (·.add (l.toNat * k))) (m.toNat - l.toNat) (cap - l.toNat))) w := by
    intro ad len cap hx hm hmc
    have e := bounds_run (P := P) (sl := true) (oint_spec h2 S hl) (oint_spec h3 S hm) h0 hlm hmc w
    simp [execOp, ho, hx, Instr.sliceAt, run_underlying hu, Instr.slice, e, sizeOf_run hinf, hsz]
  have sub : ∀ (ad : Option Addr) (n cap : Nat), m ≤ cap → subH (.slice ad n cap) k l.toNat (m.toNat - l.toNat) (.slice (if cap = l.toNat then ad else ad.map (·.add (l.toNat * k))) (m.toNat - l.toNat) (cap - l.toNat)) := by
    intro ad n cap hmc
    refine ⟨by omega, by omega, _, rfl, ?_⟩
    by_cases e : cap = l.toNat
    · exact .inl e
    · exact .inr (by rw [if_neg e])
  rcases hr with ⟨ow, rows, hx, hm, hmr, rfl⟩ | ⟨id, p, lo0, n, hx, hm, hmn, rfl⟩
  · rw [hx] at k1
    simp only [SR] at k1
    generalize hv : a.eval x = v at k1
    have key : ∃ ad cap, v = .slice ad rows.length cap ∧ rows.length ≤ cap := by
      cases k1 with
      | imm0 _ => exact ⟨_, _, rfl, by simp⟩
      | imm _ _ _ hl _ _ _ => exact ⟨_, _, rfl, hl⟩
      | own0 _ => exact ⟨_, _, rfl, by simp⟩
    obtain ⟨ad, cap, rfl, hcap⟩ := key
    refine ⟨_, w, g, run ad _ cap hv hm (by omega), S, ?_⟩
    simp only [SR]
    cases ow with
    | false => exact k1.immSub (by omega) (sub _ _ _ (by omega))
    | true =>
      cases k1 with
      | own0 _ =>
        simp at hmr
        have : m.toNat - l.toNat = 0 := by omega
        rw [this]
        simp
        exact .own0 .nil
  · rw [hx] at k1
    simp only [SR] at k1
    obtain ⟨⟨ad, cap, hv, hcap, hpos⟩, t0, ht, k1⟩ := k1
    refine ⟨_, w, g, run ad _ cap hv hm (by omega), S, ?_⟩
    simp only [SR]
    refine ⟨⟨_, _, rfl, by omega, fun hp => ?_⟩, t0, ht, fun rows hat => ?_⟩
    · obtain ⟨b, c, rfl⟩ := hpos (by omega)
      rw [if_neg (by omega)]
      exact ⟨b, c + l.toNat * k, by rw [Option.map_some, add_none]⟩
    · obtain ⟨hv0, hh, hsub⟩ := k1 rows hat
      refine ⟨hv0, hh, ?_⟩
      cases hv0 <;> first | (exact hsub.elim) | skip
      rename_i a0 n0 cap0
      obtain ⟨q1, q2, ad2, hv2, hq⟩ := hsub
      rw [hv] at hv2
      injection hv2 with e1 e2 e3
      subst e1 e3
      refine ⟨by omega, by omega, _, by rw [show cap0 - lo0 - l.toNat = cap0 - (lo0 + l.toNat) by omega], ?_⟩
      by_cases e : cap0 - lo0 = l.toNat
      · exact .inl (by omega)
      · rw [if_neg e]
        rcases hq with hq | hq
        · exfalso; omega
        · right
          subst hq
          rw [Option.map_map]
          congr 1
          funext y
          simp only [Function.comp]
          rw [add_add, Nat.add_mul]

/-! ### Reading -/
theorem arr_range {b f k : Nat} {arr : Array Value} {el : TypeId} {fr : Nat × Nat} (hb : w.heap[b]? = some (.cells arr el fr)) : w.rangeAt b f ((arr.toList.drop f).take k) := by
  intro j v hj
  rw [cell_of hb]
  rw [List.getElem?_take] at hj
  split at hj
  · rw [List.getElem?_drop] at hj
    simpa using hj
  · cases hj

/-- What a load tells, where it lies in memory. -/
theorem snd_load {t : TypeId} {x : Operand} {ag : Bool} {k b c : Nat} {cs : List SV} {vs : List Value} {sv : SV} (ho : o.op = .load t x) (hsz : szC P t = some (ag, k)) (S : Sm w0 F Lb w ⟨σ, bx, h⟩ a.tmps g)
    (hx : a.eval x = .pointer (some ⟨b, c, none⟩)) (hr : w.rangeAt b c vs) (hl : vs.length = k) (hs : SRL w F bx h g cs vs) (hoc : ∀ v ∈ vs, oc v = true) (hag : agg ag cs = some sv) :
    OpOk P w0 F Lb w σ bx h a.tmps (execOp a.eval o) sv := by
  obtain ⟨d, i, hd, hi, hk, rfl⟩ := szC_spec hsz
  obtain ⟨p1, p2⟩ := loadVar_run hd (cs := vs) (by rw [hi]; simp; omega) hr
  rcases agg_some hag with ⟨ha, rfl⟩ | ⟨ha, hcs⟩
  · refine ⟨.agg vs.toArray, w, g, ?_, S, ?_⟩
    · simp only [execOp, ho, hx, Instr.loadAt, Instr.sureAddr, Sem.run_bind, Sem.run_pure, Result.andThen_ok, p1 ha]
    · simp only [SR]
      exact ⟨_, rfl, by simpa using hoc, by simpa using hs⟩
  · rw [hcs] at hs
    have hl2 := hs.len
    obtain ⟨v, rfl⟩ : ∃ v, vs = [v] := by
      match vs, hl2 with
      | [v], _ => exact ⟨v, rfl⟩
    refine ⟨v, w, g, ?_, S, hs.1⟩
    simp only [execOp, ho, hx, Instr.loadAt, Instr.sureAddr, Sem.run_bind, Sem.run_pure, Result.andThen_ok, p2 ha v rfl]

theorem snd_ldb {t : TypeId} {x : Operand} {x' : Opd} {ag : Bool} {k f : Nat} {id : Id} {cs : List SV} {sv : SV} (ho : o.op = .load t x) (hsz : szC P t = some (ag, k)) (h1 : opdC P 0 x = some x') (S : Sm w0 F Lb w ⟨σ, bx, h⟩ a.tmps g)
    (hx : x'.ev σ = .b id f) (hb : bx id = some cs) (hlt : f + k ≤ cs.length) (hag : agg ag ((cs.drop f).take k) = some sv) : OpOk P w0 F Lb w σ bx h a.tmps (execOp a.eval o) sv := by
  have k1 := opd_spec h1 S
  rw [hx] at k1
  simp only [SR] at k1
  obtain ⟨_, arr, el, ha, hoc, hs⟩ := S.inv.bs id cs hb
  have hlen := hs.len
  refine snd_load ho hsz S k1.2 (arr_range (f := f) (k := k) ha) ?_ ((hs.drop f).take k) (fun v hv => hoc v (List.mem_of_mem_drop (List.mem_of_mem_take hv))) hag
  simp at hlen ⊢
  omega
theorem snd_ldq {t : TypeId} {x : Operand} {x' : Opd} {ag : Bool} {k f : Nat} {row ts : List T} {sv : SV} (ho : o.op = .load t x) (hsz : szC P t = some (ag, k)) (h1 : opdC P 0 x = some x') (S : Sm w0 F Lb w ⟨σ, bx, h⟩ a.tmps g)
    (hx : x'.ev σ = .q row f) (hld : ldrow row f k = some ts) (hag : agg ag (ts.map .c) = some sv) : OpOk P w0 F Lb w σ bx h a.tmps (execOp a.eval o) sv := by
  have k1 := opd_spec h1 S
  rw [hx] at k1
  simp only [SR] at k1
  obtain ⟨ad, ws, hF, hsp, hv, hcell, hc⟩ := k1
  unfold ldrow at hld
  split at hld
  · rename_i hlt
    obtain rfl := Option.some.inj hld
    have e : row = row.take f ++ ((row.drop f).take k ++ (row.drop f).drop k) := by rw [List.take_append_drop, List.take_append_drop]
    rw [e] at hc
    obtain ⟨v1, v23, B1, B23, rfl, hB, c1, c23⟩ := CR.split hc
    obtain ⟨rfl, rfl⟩ := List.append_eq_nil_iff.1 hB.symm
    obtain ⟨v2, v3, B2, B3, rfl, hB, c2, c3⟩ := CR.split c23
    obtain ⟨rfl, rfl⟩ := List.append_eq_nil_iff.1 hB.symm
    have hl1 : v1.length = f := by rw [← c1.len, List.length_take]; omega
    refine snd_load ho hsz S hv (vs := v2) (fun j v hj => ?_) (by rw [← c2.len, List.length_take, List.length_drop]; omega) (SRL.ofCR c2) c2.oc hag
    have hj2 : j < v2.length := (List.getElem?_eq_some_iff.1 hj).1
    have := hcell (f + j) v (by rw [List.getElem?_append_right (by omega), List.getElem?_append_left (by omega), hl1]; simpa using hj)
    simpa [Nat.add_assoc] using this
  · cases hld

theorem at_append : ∀ {p q : Path} {t t1 : T}, t.at p = some t1 → t.at (p ++ q) = t1.at q
  | [], q, t, t1, h => by simp only [T.at, Option.some.injEq] at h; subst h; rfl
  | (i, f) :: p, q, t, t1, h => by
    match t with
    | T.u => simp [T.at] at h
    | T.v _ => simp [T.at] at h
    | T.l false _ _ => simp [T.at] at h
    | T.l true sz rows =>
      simp only [T.at] at h
      split at h
      · rename_i row hrow
        split at h
        · rename_i t2 ht2
          simp only [List.cons_append, T.at, hrow, ht2]
          exact at_append h
        · cases h
      · cases h
theorem hdr_append {w : World} : ∀ {p q : Path} {t t1 : T} {hv hs : Value}, t.at p = some t1 → hdr w hv t p = some hs → hdr w hv t (p ++ q) = hdr w hs t1 q
  | [], q, t, t1, hv, hs, h, hh => by
    simp only [T.at, Option.some.injEq] at h
    simp only [hdr, Option.some.injEq] at hh
    subst h hh
    rfl
  | (i, f) :: p, q, t, t1, hv, hs, h, hh => by
    match t with
    | T.u => simp [T.at] at h
    | T.v _ => simp [T.at] at h
    | T.l false _ _ => simp [T.at] at h
    | T.l true sz rows =>
      simp only [T.at] at h
      split at h
      · rename_i row hrow
        split at h
        · rename_i t2 ht2
          simp only [hdr] at hh
          obtain ⟨b, hb, hh⟩ := Option.bind_eq_some_iff.1 hh
          obtain ⟨row', hr', hh⟩ := Option.bind_eq_some_iff.1 hh
          rw [hrow] at hr'
          obtain rfl := Option.some.inj hr'
          obtain ⟨t', ht', hh⟩ := Option.bind_eq_some_iff.1 hh
          rw [ht2] at ht'
          obtain rfl := Option.some.inj ht'
          obtain ⟨hv', hc, hh⟩ := Option.bind_eq_some_iff.1 hh
          simp only [List.cons_append, hdr, hb, Option.bind_some, hrow, ht2, hc]
          exact hdr_append h hh
        · cases h
      · cases h

/-- Cells of an owned row, as slots have them. -/
theorem SRL.svL (I : Inv w0 F Lb w bx h g) {id : Id} {t : T} {p : Path} {sz i b : Nat} {rows : List (List T)} {n cap : Nat} (ht : h id = some t) (hat : t.at p = some (.l true sz rows)) (hh : hdr w (g.hd id) t p = some (.slice (some ⟨b, 0, none⟩) n cap)) {row : List T} (hrow : rows[i]? = some row) :
    ∀ (ts : List T) (f : Nat) (vs : List Value) (B : List Nat), (∀ j x, ts[j]? = some x → row[f + j]? = some x) → CR w F ts vs B → w.rangeAt b (i * sz + f) vs → SRL w F bx h g (svL id p i f ts) vs
  | [], f, vs, B, _, hc, _ => by cases hc; trivial
  | x :: ts, f, vs, B, hrow2, hc, hr => by
    obtain ⟨v, vs', B1, B2, rfl, rfl, c1, c2⟩ := hc.uncons
    refine ⟨?_, SRL.svL I ht hat hh hrow ts (f + 1) vs' B2 (fun j y hj => by rw [Nat.add_assoc, Nat.add_comm 1 j]; exact hrow2 (j + 1) y (by simpa using hj)) c2 (fun j y hj => by
      have := hr (j + 1) y (by simpa using hj)
      rw [show i * sz + (f + 1) + j = i * sz + f + (j + 1) by omega]; exact this)⟩
    have hxr : row[f]? = some x := by simpa using hrow2 0 x rfl
    have hcell : w.cell? ⟨b, i * sz + f, none⟩ = some v := by simpa using hr 0 v rfl
    have hat2 : t.at (p ++ [(i, f)]) = some x := by rw [at_append hat]; simp [T.at, hrow, hxr]
    have hh2 : hdr w (g.hd id) t (p ++ [(i, f)]) = some v := by rw [hdr_append hat hh]; simp [hdr, blkOf, hrow, hxr, hcell]
    match x, c1 with
    | T.u, c1 => simp only [sv1, SR]; cases c1 with | u _ ho hr => cases hr; exact .u v ho .nil
    | T.v y, c1 =>
      simp only [sv1, SR]
      have hy : CR w F [T.v y] [v] [] := by
        cases c1 with | v _ ho _ => exact CR.v _ ho CR.nil
      exact hy
    | T.l false s rs, c1 =>
      simp only [sv1, SR]
      cases c1 with
      | imm0 hr => cases hr; exact .imm0 .nil
      | imm k1 k2 k3 k4 k5 k6 hr => cases hr; exact .imm k1 k2 k3 k4 k5 k6 .nil
    | T.l true s rs, c1 =>
      simp only [sv1, SR]
      have key : ∃ ad cap, v = .slice ad rs.length cap ∧ slLook rs.length v := by
        cases c1 with
        | own0 _ => exact ⟨_, 0, rfl, _, _, rfl, Nat.le_refl _, fun h => absurd h (by simp)⟩
        | own _ _ hl _ _ _ => exact ⟨_, _, rfl, _, _, rfl, hl, fun _ => ⟨_, _, rfl⟩⟩
      obtain ⟨ad, cap2, rfl, hlk⟩ := key
      refine ⟨hlk, t, ht, fun rows' hq => ⟨_, hh2, ?_⟩⟩
      obtain ⟨_, _, e, hle, _⟩ := hlk
      injection e with _ _ e
      subst e
      exact subH_self hle
theorem svL_len (id : Id) (p : Path) (i : Nat) : ∀ (f : Nat) (ts : List T), (svL id p i f ts).length = ts.length
  | _, [] => rfl
  | f, t :: ts => by simp [svL, svL_len id p i (f + 1) ts]

theorem snd_ldp {t : TypeId} {x : Operand} {x' : Opd} {ag : Bool} {k f i sz : Nat} {id : Id} {p : Path} {rows : List (List T)} {row ts : List T} {sv : SV} (ho : o.op = .load t x) (hsz : szC P t = some (ag, k)) (h1 : opdC P 0 x = some x') (S : Sm w0 F Lb w ⟨σ, bx, h⟩ a.tmps g)
    (hx : x'.ev σ = .p id p sz i f) (hq : hat h id p = some (.l true sz rows)) (hrow : rows[i]? = some row) (hld : ldrow row f k = some ts) (hag : agg ag (svL id p i f ts) = some sv) : OpOk P w0 F Lb w σ bx h a.tmps (execOp a.eval o) sv := by
  have k1 := opd_spec h1 S
  rw [hx] at k1
  simp only [SR] at k1
  obtain ⟨_, t0, ht, k1⟩ := k1
  obtain ⟨t1, ht1, hat⟩ := Option.bind_eq_some_iff.1 hq
  rw [ht] at ht1
  obtain rfl := Option.some.inj ht1
  have hilt : i < rows.length := (List.getElem?_eq_some_iff.1 hrow).1
  obtain ⟨b, n, cap, hh, hv⟩ := k1 rows hat hilt
  obtain ⟨hs, X, Bs, Y, hh2, hB, hcr, _⟩ := (S.inv.ls id t0 ht).1.focus hat
  rw [hh] at hh2
  obtain rfl := Option.some.inj hh2
  unfold ldrow at hld
  split at hld
  · rename_i hlt
    obtain rfl := Option.some.inj hld
    cases hcr with
    | own0 _ => simp at hrow
    | @own _ _ B1 B2 _ _ _ _ arr el hb huni hl hsz2 hcells _ =>
      have hrowl : row.length = sz := huni row (List.mem_of_getElem? hrow)
      have hfl : rows.flatten = ((rows.take i).flatten ++ row.take f) ++ ((row.drop f).take k ++ ((row.drop f).drop k ++ (rows.drop (i + 1)).flatten)) := by
        conv => lhs; rw [← List.take_append_drop i rows]
        rw [List.flatten_append, List.drop_eq_getElem_cons hilt, List.flatten_cons]
        have : rows[i] = row := (List.getElem?_eq_some_iff.1 hrow).2
        rw [this]
        have e : row = row.take f ++ ((row.drop f).take k ++ (row.drop f).drop k) := by rw [List.take_append_drop, List.take_append_drop]
        conv => lhs; rw [e]
        simp
      rw [hfl] at hcells
      obtain ⟨v1, v23, B1', B23, hvs, rfl, c1, c23⟩ := CR.split hcells
      obtain ⟨v2, v3, B2', B3, rfl, rfl, c2, c3⟩ := CR.split c23
      have hl1 : v1.length = i * sz + f := by
        rw [← c1.len, List.length_append, flatten_len (fun r hr => huni r (List.mem_of_mem_take hr)), List.length_take, List.length_take, Nat.min_eq_left (by omega), Nat.min_eq_left (by omega)]
      have hr : w.rangeAt b (i * sz + f) v2 := by
        intro j v hj
        have hj2 : j < v2.length := (List.getElem?_eq_some_iff.1 hj).1
        rw [cell_of hb]
        have : (arr.toList.take (rows.length * sz))[i * sz + f + j]? = some v := by
          rw [hvs, List.getElem?_append_right (by omega), List.getElem?_append_left (by omega), hl1]; simpa using hj
        rw [List.getElem?_take] at this
        split at this
        · simpa using this
        · cases this
      refine snd_load ho hsz S hv hr (by rw [← c2.len, List.length_take, List.length_drop]; omega) (SRL.svL S.inv ht hat hh hrow _ f v2 B2' (fun j y hj => ?_) c2 hr) c2.oc hag
      rw [List.getElem?_take] at hj
      split at hj
      · rw [List.getElem?_drop] at hj; exact hj
      · cases hj
  · cases hld
end
end AM

namespace AM
open Go

section
variable {P : Program} {w0 w w' : World} {F F' : FS} {Lb : Lent} {bx bx' : BX} {h h' : Heap} {g g' : Gh} {σ : Nat → SV} {tmps : Array Value} {a : Act} {o : Go.Oper}

theorem alloc_same {w : World} {ob : Obj} {b : Nat} (hb : b < w.heap.size) : (w.alloc ob).heap[b]? = w.heap[b]? := by
  show (w.heap.push ob)[b]? = _
  simp [Array.getElem?_push, Nat.ne_of_lt hb]
theorem alloc_new {w : World} {ob : Obj} : (w.alloc ob).heap[w.heap.size]? = some ob := by
  show (w.heap.push ob)[w.heap.size]? = _
  simp
theorem Sm.alloc (S : Sm w0 F Lb w ⟨σ, bx, h⟩ tmps g) (ob : Obj) : Sm w0 F Lb (w.alloc ob) ⟨σ, bx, h⟩ tmps g :=
  S.grow (fun b hb => alloc_same hb) (by simp) ⟨rfl, rfl⟩
theorem Ext.alloc (I : Inv w0 F Lb w bx h g) (ob : Obj) : Ext F (fun _ _ => True) w bx h g (w.alloc ob) bx h g := .grow I fun b hb => alloc_same hb
theorem Sm.drew (S : Sm w0 F Lb w ⟨σ, bx, h⟩ tmps g) : Sm w0 F Lb w.drew ⟨σ, bx, h⟩ tmps g :=
  S.grow (fun b _ => rfl) (Nat.le_refl _) ⟨rfl, rfl⟩

theorem Sm.box (S : Sm w0 F Lb w ⟨σ, bx, h⟩ tmps g) {id : Id} {cs : List SV} {arr : Array Value} {el : TypeId} (hid : bx id = none) (hnl : isLent id = false) (hoc : ∀ x ∈ arr.toList, oc x = true) (hs : SRL w F bx h g cs arr.toList) :
    ∃ g', Sm w0 F Lb (w.alloc (.cells arr el)) ⟨σ, bnew bx id cs, h⟩ tmps g' ∧ SR (w.alloc (.cells arr el)) F (bnew bx id cs) h g' (.b id 0) (.pointer (some ⟨w.heap.size, 0, none⟩)) := by
  have S1 := S.alloc (.cells arr el)
  exact ⟨_, S1.newB hid hnl alloc_new hoc (SRL.ext (Ext.alloc S.inv _) (keepsL_true _) hs) ⟨S.inv.free_new (Nat.le_refl _), .inl S.inv.sz⟩⟩

/-- A list that lies in a new block. -/
theorem Sm.row (S : Sm w0 F Lb w ⟨σ, bx, h⟩ tmps g) {id : Id} {sz cap : Nat} {rows : List (List T)} {arr : Array Value} {el : TypeId} {B : List Nat} (hid : h id = none) (hnl : isLent id = false) (hu : ∀ r ∈ rows, r.length = sz) (hl : rows.length ≤ cap) (hsz : arr.size = cap * sz)
    (hc : CR w F rows.flatten (arr.toList.take (rows.length * sz)) B) (hn : B.Nodup) (hf : ∀ b ∈ B, Free bx h g b ∧ (w0.heap.size ≤ b ∨ Lb b)) :
    ∃ g', Sm w0 F Lb (w.alloc (.cells arr el)) ⟨σ, bx, hnew h id (.l true sz rows)⟩ tmps g' ∧ SR (w.alloc (.cells arr el)) F bx (hnew h id (.l true sz rows)) g' (.r id [] sz 0 rows.length) (.slice (some ⟨w.heap.size, 0, none⟩) rows.length cap) := by
  have S1 := S.alloc (.cells arr el)
  have E := Ext.alloc S.inv (.cells arr el)
  have hlt : ∀ b ∈ B, b < w.heap.size := hc.lt
  have hc1 : CR (w.alloc (.cells arr el)) F rows.flatten (arr.toList.take (rows.length * sz)) B := hc.frame (fun b hb => alloc_same (hlt b hb)) E.F (fun _ h => h)
  have hc2 := CR.own (w := w.alloc (.cells arr el)) (F := F) alloc_new hu hl hsz hc1 .nil
  refine ⟨_, S1.newL hid hnl hc2 ?_ ?_, SR.root ⟨_, _, rfl, hl, fun _ => ⟨_, _, rfl⟩⟩⟩
  · rw [List.append_nil, List.nodup_cons]
    exact ⟨fun hm => Nat.lt_irrefl _ (hlt _ hm), hn⟩
  · intro b hb
    rw [List.append_nil] at hb
    rcases List.mem_cons.1 hb with rfl | hb
    · exact ⟨S.inv.free_new (Nat.le_refl _), .inl S.inv.sz⟩
    · exact hf b hb

theorem zeroValue_run {t : TypeId} {i : TypeInfo} {v : Value} (hi : P.info? t = some i) (hz : i.zero = some v) (w : World) : (zeroValue t).run P w = .ok v w := by
  simp [zeroValue, typeInfo, hi, hz]

theorem snd_alloc {e : TypeId} {z : List T} {id : Id} (ho : o.op = .alloc e) (hz : zeroT P e = some z) (S : Sm w0 F Lb w ⟨σ, bx, h⟩ a.tmps g) (hid : bx id = none) (hnl : isLent id = false) :
    OpOk P w0 F Lb w σ (bnew bx id (z.map .c)) h a.tmps (execOp a.eval o) (.b id 0) := by
  obtain ⟨i, v, hi, hzv, hcr⟩ := zeroT_spec hz
  have h1 := hcr w F
  obtain ⟨g', S', hs⟩ := S.box (el := e) hid hnl h1.oc (SRL.ofCR h1)
  refine ⟨_, _, g', ?_, S', hs⟩
  simp [execOp, ho, Instr.alloc, zeroValue_run hi hzv, newVar, newRow]

theorem cellsS_spec {s : SV} {v : Value} {cs : List SV} (hs : SR w F bx h g s v) (hc : cellsS s = some cs) : SRL w F bx h g cs v.cells.toList ∧ ∀ x ∈ v.cells.toList, oc x = true := by
  unfold cellsS at hc
  split at hc
  · obtain rfl := Option.some.inj hc
    simp only [SR] at hs
    obtain ⟨arr, rfl, ho, hs⟩ := hs
    exact ⟨hs, ho⟩
  · split at hc
    · rename_i h1
      obtain rfl := Option.some.inj hc
      have hoc : oc v = true := by
        unfold one at h1
        split at h1
        · simp only [SR] at hs; exact hs.oc v List.mem_cons_self
        · simp only [SR] at hs
          obtain ⟨⟨_, _, rfl, _⟩, _⟩ := hs
          rfl
        · cases h1
      rw [oc_cells hoc]
      exact ⟨⟨hs, trivial⟩, by simpa using hoc⟩
    · cases hc

theorem snd_box {e : TypeId} {x : Operand} {x' : Opd} {cs : List SV} {id : Id} (ho : o.op = .box e x) (h1 : opdC P e x = some x') (S : Sm w0 F Lb w ⟨σ, bx, h⟩ a.tmps g) (hc : cellsS (x'.ev σ) = some cs) (hid : bx id = none) (hnl : isLent id = false) :
    OpOk P w0 F Lb w σ (bnew bx id cs) h a.tmps (execOp a.eval o) (.b id 0) := by
  obtain ⟨h2, h3⟩ := cellsS_spec (opd_spec h1 S) hc
  obtain ⟨g', S', hs⟩ := S.box (el := e) hid hnl h3 h2
  refine ⟨_, _, g', ?_, S', hs⟩
  simp [execOp, ho, Instr.box, newVar, newRow]

/-! ### Filling -/
theorem fill_foldl (off : Nat) : ∀ (vs : List Value) (j : Nat) (cells : Array Value), off + j + vs.length ≤ cells.size →
    ((vs.zipIdx j).foldl (fun cs (x : Value × Nat) => cs.setIfInBounds (off + x.2) x.1) cells).toList = cells.toList.take (off + j) ++ vs ++ cells.toList.drop (off + j + vs.length)
  | [], j, cells, _ => by simp
  | v :: vs, j, cells, hl => by
    rw [List.zipIdx_cons, List.foldl_cons, fill_foldl off vs (j + 1) _ (by simp at hl ⊢; omega)]
    have e := list_seg_step cells.toList (off + j) v vs (by simp at hl ⊢; omega)
    rw [Array.toList_setIfInBounds]
    simp only [List.length_cons]
    rw [← e]
    simp [Nat.add_assoc]
theorem fill_cons {place : Nat → Option (Nat × Nat)} {cells : Array Value} {i off size : Nat} {v : Value} {rest : List (Nat × Value)} (hp : place i = some (off, size)) (hv : v.cells.size = size) (hl : off + size ≤ cells.size) :
    ∃ cells', Instr.fill place cells ((i, v) :: rest) = Instr.fill place cells' rest ∧ cells'.toList = cells.toList.take off ++ v.cells.toList ++ cells.toList.drop (off + size) := by
  refine ⟨v.cells.zipIdx.foldl (fun cs (c, j) => cs.setIfInBounds (off + j) c) cells, ?_, ?_⟩
  · have h1 : ¬ (v.cells.size ≠ size || decide (off + v.cells.size > cells.size)) = true := by simp; omega
    simp only [Instr.fill, hp]
    rw [if_neg h1]
  · rw [← Array.foldl_toList]
    have := fill_foldl off v.cells.toList 0 cells (by simp; omega)
    simp only [Nat.add_zero] at this
    rw [Array.toList_zipIdx, this]
    simp [hv]

/-- A row of a table is put. -/
theorem set_flat {sz i : Nat} {rows : List (List T)} {ts : List T} (hu : ∀ r ∈ rows, r.length = sz) (hi : i < rows.length) (ht : ts.length = sz) :
    (rows.set i ts).flatten = (rows.take i).flatten ++ (ts ++ (rows.drop (i + 1)).flatten) ∧ rows.flatten = (rows.take i).flatten ++ (rows[i] ++ (rows.drop (i + 1)).flatten) ∧ (rows.take i).flatten.length = i * sz ∧ ∀ r ∈ rows.set i ts, r.length = sz := by
  refine ⟨?_, ?_, ?_, ?_⟩
  · rw [List.set_eq_take_append_cons_drop, if_pos hi]
    simp
  · conv => lhs; rw [← List.take_append_drop i rows]
    rw [List.flatten_append, List.drop_eq_getElem_cons hi, List.flatten_cons]
  · rw [flatten_len (fun r hr => hu r (List.mem_of_mem_take hr)), List.length_take, Nat.min_eq_left (by omega)]
  · intro r hr
    rcases List.mem_or_eq_of_mem_set hr with hr | rfl
    · exact hu r hr
    · exact ht
theorem CR.setRow {sz i : Nat} {rows : List (List T)} {ts : List T} {cells ws : List Value} {B B1 : List Nat} (hu : ∀ r ∈ rows, r.length = sz) (hi : i < rows.length) (ht : ts.length = sz) (hc : CR w F rows.flatten cells B) (h1 : CR w F ts ws B1) :
    ∃ X Y Z, B = X ++ Y ++ Z ∧ CR w F (rows.set i ts).flatten (cells.take (i * sz) ++ ws ++ cells.drop (i * sz + sz)) (X ++ B1 ++ Z) := by
  obtain ⟨e1, e2, e3, _⟩ := set_flat hu hi ht
  rw [e2] at hc
  obtain ⟨v1, v23, X, YZ, rfl, rfl, c1, c23⟩ := CR.split hc
  obtain ⟨v2, v3, Y, Z, rfl, rfl, c2, c3⟩ := CR.split c23
  refine ⟨X, Y, Z, by simp, ?_⟩
  have l1 : v1.length = i * sz := by rw [← c1.len, e3]
  have l2 : v2.length = sz := by rw [← c2.len]; exact hu _ (List.getElem_mem hi)
  rw [e1]
  have t1 : (v1 ++ (v2 ++ v3)).take (i * sz) = v1 := by rw [← l1]; simp
  have t2 : (v1 ++ (v2 ++ v3)).drop (i * sz + sz) = v3 := by rw [← l1, ← l2, ← List.append_assoc, ← List.length_append]; simp
  rw [t1, t2, List.append_assoc, List.append_assoc]
  exact c1.append (h1.append c3)

theorem CR.rep {z : List T} {zs : List Value} (hc : CR w F z zs []) : ∀ n, CR w F (List.replicate n z).flatten (List.replicate n zs).flatten []
  | 0 => by simpa using CR.nil
  | n + 1 => by
    rw [List.replicate_succ, List.replicate_succ, List.flatten_cons, List.flatten_cons]
    have := hc.append (CR.rep hc n)
    simpa using this
theorem madeCells_rep (z : Array Value) : ∀ m, ((Array.range (m * z.size)).map (z[· % z.size]!)).toList = (List.replicate m z.toList).flatten
  | 0 => by simp
  | m + 1 => by
    have ih := madeCells_rep z m
    rw [Array.toList_map, Array.toList_range] at ih ⊢
    rw [Nat.succ_mul, List.range_add, List.map_append, ih, List.replicate_succ', List.flatten_append, List.map_map]
    congr 1
    simp only [List.flatten_cons, List.flatten_nil, List.append_nil]
    apply List.ext_getElem
    · simp
    · intro i h1 h2
      have hi : i < z.size := by simpa using h1
      simp [Nat.mul_add_mod_self_right, Nat.mod_eq_of_lt hi, hi]

theorem elemOk_spec {e : TypeId} {k : Nat} {z : List T} (he : elemOk P e k = true) (hz : zeroT P e = some z) : ∃ i v, P.info? e = some i ∧ i.zero = some v ∧ i.bytes ≤ 24 * k ∧ v.cells.size = k ∧ z.length = k ∧ ∀ w F, CR w F z v.cells.toList [] := by
  obtain ⟨i, v, hi, hzv, hcr⟩ := zeroT_spec hz
  unfold elemOk at he
  rw [hi, hz] at he
  simp only [Bool.and_eq_true, decide_eq_true_eq, beq_iff_eq] at he
  refine ⟨i, v, hi, hzv, he.1, ?_, he.2, hcr⟩
  have := (hcr default fun _ => True).len
  rw [he.2] at this
  simpa using this.symm

theorem snd_mks {t e : TypeId} {l c : Operand} {n' : Opd} {k : Nat} {kk : IntKind} {m : Int} {z : List T} {id : Id} (ho : o.op = .makeSlice t l c) (he : sliceElem P t = some (e, k)) (hok : elemOk P e k = true) (hz : zeroT P e = some z)
    (h1 : opdC P 0 l = some n') (h2 : opdC P 0 c = some n') (S : Sm w0 F Lb w ⟨σ, bx, h⟩ a.tmps g) (hx : n'.ev σ = .c (.v (.int kk m))) (h0 : 0 ≤ m) (hlim : m.toNat * (k + 1) ≤ LIM) (hid : h id = none) (hnl : isLent id = false) :
    OpOk P w0 F Lb w σ bx (hnew h id (.l true k (List.replicate m.toNat z))) a.tmps (execOp a.eval o) (.r id [] k 0 m.toNat) := by
  obtain ⟨i, v, hi, hzv, hby, hvs, hzl, hcr⟩ := elemOk_spec hok hz
  obtain ⟨hu, d, inf, hd, hinf, hsz⟩ := sliceElem_spec he
  rw [hi] at hinf
  obtain rfl := Option.some.inj hinf
  have k1 := opd_spec h1 S; rw [hx] at k1
  have k2 := opd_spec h2 S; rw [hx] at k2
  have hlim' : m.toNat * k + m.toNat ≤ 1099511627776 := by rw [Nat.mul_succ] at hlim; exact hlim
  have hb : (i.bytes : Int) * m ≤ 281474976710656 := by
    have h3 : i.bytes * m.toNat ≤ 24 * k * m.toNat := Nat.mul_le_mul_right _ hby
    have h4 : 24 * k * m.toNat = 24 * (m.toNat * k) := by rw [Nat.mul_assoc, Nat.mul_comm k]
    have h5 : ((i.bytes * m.toNat : Nat) : Int) = (i.bytes : Int) * m := by rw [Int.natCast_mul, Int.toNat_of_nonneg h0]
    omega
  have run := run_make w t e i v hu hi hzv kk kk m m h0 (Int.le_refl _) hb (by omega)
  have hmc : (madeCells v.cells (m.toNat * i.size)).toList = (List.replicate m.toNat v.cells.toList).flatten := by
    rw [hsz, ← hvs]; exact madeCells_rep _ _
  have hlen : (List.replicate m.toNat z).length = m.toNat := by simp
  have hcc := (hcr w F).rep m.toNat
  obtain ⟨g', S', hs⟩ := S.row (el := e) (sz := k) (cap := m.toNat) (rows := List.replicate m.toNat z) (arr := madeCells v.cells (m.toNat * i.size)) (B := []) hid hnl (fun r hr => by rw [(List.mem_replicate.1 hr).2]; exact hzl) (by simp) (by rw [size_madeCells, hsz])
    (by
      rw [hlen, hmc, List.take_of_length_le]
      · exact hcc
      · rw [← hmc, Array.length_toList, size_madeCells, hsz]; exact Nat.le_refl _) List.nodup_nil (by simp)
  rw [hlen] at hs
  refine ⟨_, _, g', ?_, S', hs⟩
  simp only [execOp, ho, k1.scal'.1, k2.scal'.1, Sem.run_bind, run, Result.andThen_ok, Sem.run_pure]
end
end AM

namespace AM
open Go

section
variable {P : Program} {w0 w w' : World} {F F' : FS} {Lb : Lent} {bx bx' : BX} {h h' : Heap} {g g' : Gh} {σ : Nat → SV} {tmps : Array Value} {a : Act} {o : Go.Oper}

/-! ### Slice literals -/
theorem opsM_parts {elem : TypeId} : ∀ {parts : List (Nat × Operand)} {ps : List (Nat × Opd)}, opsM (fun (p : Nat × Operand) => (opdC P elem p.2).map fun x => (p.1, x)) parts = some ps →
    (ps = [] ∧ parts = []) ∨ ∃ i x y parts' ps', parts = (i, x) :: parts' ∧ ps = (i, y) :: ps' ∧ opdC P elem x = some y ∧ opsM (fun (p : Nat × Operand) => (opdC P elem p.2).map fun x => (p.1, x)) parts' = some ps'
  | [], ps, h => by
    simp only [opsM, Option.some.injEq] at h
    exact .inl ⟨h.symm, rfl⟩
  | (i, x) :: parts, ps, h => by
    obtain ⟨y, ys, h1, h2, rfl⟩ := opsM_cons h
    obtain ⟨y', h3, rfl⟩ := Option.map_eq_some_iff.1 h1
    exact .inr ⟨i, x, y', parts, ys, rfl, rfl, h3, h2⟩

theorem fillN {elem : TypeId} {sz : Nat} (S : Sm w0 F Lb w ⟨σ, bx, h⟩ a.tmps g) : ∀ {parts : List (Nat × Operand)} {ps : List (Nat × Opd)} {rows rows' : List (List T)} {cells : Array Value},
    opsM (fun (p : Nat × Operand) => (opdC P elem p.2).map fun x => (p.1, x)) parts = some ps → (∀ r ∈ rows, r.length = sz) → CR w F rows.flatten cells.toList [] → rowsN σ sz rows ps = some rows' →
    ∃ cells' : Array Value, Instr.fill (fun i => some (i * sz, sz)) cells (parts.map fun p => (p.1, a.eval p.2)) = some cells' ∧ CR w F rows'.flatten cells'.toList [] ∧ (∀ r ∈ rows', r.length = sz) ∧ rows'.length = rows.length
  | parts, ps, rows, rows', cells, hp, hu, hc, hr => by
    rcases opsM_parts hp with ⟨rfl, rfl⟩ | ⟨i, x, y, parts', ps', rfl, rfl, hxy, hp'⟩
    · simp only [rowsN, Option.some.injEq] at hr
      subst hr
      exact ⟨cells, rfl, hc, hu, rfl⟩
    · simp only [rowsN] at hr
      split at hr
      · rename_i ts hts
        split at hr
        · rename_i hl
          obtain ⟨hl, hi⟩ := hl
          have k1 := (opd_spec hxy S).unA hts
          have hvs : (a.eval x).cells.size = sz := by have := k1.len; simp at this; omega
          have hlen := hc.len
          rw [flatten_len hu] at hlen
          have hle : i * sz + sz ≤ cells.size := by
            have : (i + 1) * sz ≤ rows.length * sz := Nat.mul_le_mul_right _ hi
            rw [Nat.succ_mul] at this
            simp at hlen
            omega
          obtain ⟨cells2, e1, e2⟩ := fill_cons (place := fun i => some (i * sz, sz)) (i := i) (rest := parts'.map fun p => (p.1, a.eval p.2)) rfl hvs hle
          obtain ⟨X, Y, Z, hB, hc2⟩ := hc.setRow hu hi hl k1
          obtain ⟨hXY, rfl⟩ := List.append_eq_nil_iff.1 hB.symm
          obtain ⟨rfl, rfl⟩ := List.append_eq_nil_iff.1 hXY
          rw [← e2] at hc2
          obtain ⟨cells', f1, f2, f3, f4⟩ := fillN S hp' (set_flat hu hi hl).2.2.2 hc2 hr
          exact ⟨cells', by rw [List.map_cons, e1]; exact f1, f2, f3, by rw [f4, List.length_set]⟩
        · cases hr
      · cases hr
  termination_by parts => parts.length

theorem Mvd.sub {h1 : Heap} {g1 : Gh} {B B' : List Nat} (M : Mvd w0 F Lb w σ bx tmps h g h1 g1 B) (hn : B'.Nodup) (hs : ∀ b ∈ B', b ∈ B) : Mvd w0 F Lb w σ bx tmps h g h1 g1 B' :=
  ⟨hn, fun b hb => M.fr b (hs b hb), M.sm, M.ext, M.mono, fun b hb => M.was b (hs b hb), M.dom, M.same⟩

theorem fillL {elem : TypeId} {sz : Nat} : ∀ {parts : List (Nat × Operand)} {ps : List (Nat × Opd)} {rows rows' : List (List T)} {cells : Array Value} {h0 h h1 : Heap} {g0 g : Gh} {B : List Nat}, Mvd w0 F Lb w σ bx a.tmps h0 g0 h g B →
    opsM (fun (p : Nat × Operand) => (opdC P elem p.2).map fun x => (p.1, x)) parts = some ps → (∀ r ∈ rows, r.length = sz) → CR w F rows.flatten cells.toList B → rowsV σ sz h rows ps = some (rows', h1) →
    ∃ (cells' : Array Value) (g1 : Gh) (B' : List Nat), Instr.fill (fun i => some (i * sz, sz)) cells (parts.map fun p => (p.1, a.eval p.2)) = some cells' ∧ CR w F rows'.flatten cells'.toList B' ∧ (∀ r ∈ rows', r.length = sz) ∧ rows'.length = rows.length ∧ Mvd w0 F Lb w σ bx a.tmps h0 g0 h1 g1 B'
  | parts, ps, rows, rows', cells, h0, h, h1, g0, g, B, M, hp, hu, hc, hr => by
    rcases opsM_parts hp with ⟨rfl, rfl⟩ | ⟨i, x, y, parts', ps', rfl, rfl, hxy, hp'⟩
    · simp only [rowsV, Option.some.injEq, Prod.mk.injEq] at hr
      obtain ⟨rfl, rfl⟩ := hr
      exact ⟨cells, g, B, rfl, hc, hu, rfl, M⟩
    · simp only [rowsV] at hr
      split at hr
      · rename_i ts h2 hts
        split at hr
        · rename_i hl
          obtain ⟨hl, hi⟩ := hl
          obtain ⟨g2, B1, k1, M1⟩ := M.sm.mvC (opd_spec hxy M.sm) hts
          have hvs : (a.eval x).cells.size = sz := by have := k1.len; simp at this; omega
          have hlen := hc.len
          rw [flatten_len hu] at hlen
          have hle : i * sz + sz ≤ cells.size := by
            have : (i + 1) * sz ≤ rows.length * sz := Nat.mul_le_mul_right _ hi
            rw [Nat.succ_mul] at this
            simp at hlen
            omega
          obtain ⟨cells2, e1, e2⟩ := fill_cons (place := fun i => some (i * sz, sz)) (i := i) (rest := parts'.map fun p => (p.1, a.eval p.2)) rfl hvs hle
          obtain ⟨X, Y, Z, rfl, hc2⟩ := hc.setRow hu hi hl k1
          rw [← e2] at hc2
          have M2 := M.trans M1
          have M3 := M2.sub (B' := X ++ B1 ++ Z) (by
            have hn := M2.nd
            have hp : ((X ++ B1 ++ Z) ++ Y).Perm ((X ++ Y ++ Z) ++ B1) := by
              rw [List.append_assoc, List.append_assoc, List.append_assoc, List.append_assoc]
              refine List.Perm.append_left X ?_
              have h1 : (B1 ++ (Z ++ Y)).Perm ((Z ++ Y) ++ B1) := List.perm_append_comm
              refine h1.trans ?_
              rw [← List.append_assoc]
              exact List.Perm.append_right B1 List.perm_append_comm
            exact (List.nodup_append.1 (hp.nodup_iff.2 hn)).1) (by intro b hb; simp at hb ⊢; rcases hb with hb | hb | hb <;> simp [hb])
          obtain ⟨cells', g', B', f1, f2, f3, f4, f5⟩ := fillL M3 hp' (set_flat hu hi hl).2.2.2 hc2 hr
          exact ⟨cells', g', B', by rw [List.map_cons, e1]; exact f1, f2, f3, by rw [f4, List.length_set], f5⟩
        · cases hr
      · cases hr
  termination_by parts => parts.length

theorem buildSlice_run {t e : TypeId} {n k : Nat} {z : List T} {parts : List (Nat × Value)} {cells : Array Value} (he : sliceElem P t = some (e, k)) (hok : elemOk P e k = true) (hz : zeroT P e = some z) (hn : n * k ≤ 16777216) :
    ∃ c0 : Array Value, c0.size = n * k ∧ (∀ w F, CR w F (List.replicate n z).flatten c0.toList []) ∧ (∀ w (parts : Array (Nat × Value)) cells, Instr.fill (fun i => some (i * k, k)) c0 parts.toList = some cells → (Instr.buildSlice t n parts).run P w = .ok (.slice (some ⟨w.heap.size, 0, none⟩) n n) (w.alloc (.cells cells e))) := by
  obtain ⟨i, v, hi, hzv, hby, hvs, hzl, hcr⟩ := elemOk_spec hok hz
  obtain ⟨hu, d, inf, hd, hinf, hsz⟩ := sliceElem_spec he
  rw [hi] at hinf
  obtain rfl := Option.some.inj hinf
  refine ⟨(Array.range (n * k)).map (v.cells[· % v.cells.size]!), by simp, fun w F => ?_, fun w parts cells hf => ?_⟩
  · rw [← hvs, madeCells_rep]
    exact (hcr w F).rep n
  · by_cases h0 : n * k = 0
    · have e1 : (Array.range (n * k)).map (v.cells[· % v.cells.size]!) = #[] := by rw [h0]; simp [Array.range_zero']
      rw [e1] at hf
      have hn2 : ¬ (n * i.size > 2 ^ 24) := by rw [hsz]; omega
      have h0' : n * i.size = 0 := by rw [hsz]; exact h0
      rw [← hsz] at hf
      simp [Instr.buildSlice, run_underlying hu, Go.sizeOf, typeInfo, hi, h0', Array.range_zero', hf, newRow]
    · rw [← hsz] at hf h0 hn
      exact run_buildSlice w t e n parts cells i v hu hi hzv (by omega) h0 hf

theorem map_parts (parts : Array (Nat × Operand)) (a : Act) : (parts.map fun (i, x) => (i, a.eval x)).toList = parts.toList.map fun p => (p.1, a.eval p.2) := by
  rw [Array.toList_map]

theorem snd_mkn {t e : TypeId} {n k : Nat} {z : List T} {parts : Array (Nat × Operand)} {ps : List (Nat × Opd)} {rows : List (List T)} {id : Id} (ho : o.op = .buildSlice t n parts) (he : sliceElem P t = some (e, k)) (hok : elemOk P e k = true) (hz : zeroT P e = some z) (hn : n * k ≤ 16777216)
    (hp : opsM (fun (p : Nat × Operand) => (opdC P e p.2).map fun x => (p.1, x)) parts.toList = some ps) (S : Sm w0 F Lb w ⟨σ, bx, h⟩ a.tmps g) (hr : rowsN σ k (List.replicate n z) ps = some rows) (hid : h id = none) (hnl : isLent id = false) :
    OpOk P w0 F Lb w σ bx (hnew h id (.l true k rows)) a.tmps (execOp a.eval o) (.r id [] k 0 rows.length) := by
  obtain ⟨c0, hc0, hcr, hrun⟩ := buildSlice_run (parts := []) (cells := #[]) he hok hz hn
  have hzl : z.length = k := by obtain ⟨_, _, _, _, _, _, h1, _⟩ := elemOk_spec hok hz; exact h1
  obtain ⟨cells, f1, f2, f3, f4⟩ := fillN S hp (rows := List.replicate n z) (fun r hr => by rw [(List.mem_replicate.1 hr).2]; exact hzl) (hcr w F) hr
  have hln : rows.length = n := by simpa using f4
  have hsz : cells.size = n * k := by have := f2.len; rw [flatten_len f3, hln] at this; simpa using this.symm
  obtain ⟨g', S', hs⟩ := S.row (el := e) (sz := k) (cap := n) (rows := rows) (arr := cells) (B := []) hid hnl f3 (by omega) hsz (by rw [List.take_of_length_le (by rw [hln]; simp; omega)]; exact f2) List.nodup_nil (by simp)
  refine ⟨_, _, g', ?_, S', hs⟩
  rw [hln]
  simp only [execOp, ho, Sem.run_bind, hrun w _ cells (by rw [map_parts]; exact f1), Result.andThen_ok, Sem.run_pure]

theorem snd_mkl {t e : TypeId} {n k : Nat} {z : List T} {parts : Array (Nat × Operand)} {ps : List (Nat × Opd)} {rows : List (List T)} {h1 : Heap} {id : Id} (ho : o.op = .buildSlice t n parts) (he : sliceElem P t = some (e, k)) (hok : elemOk P e k = true) (hz : zeroT P e = some z) (hn : n * k ≤ 16777216)
    (hp : opsM (fun (p : Nat × Operand) => (opdC P e p.2).map fun x => (p.1, x)) parts.toList = some ps) (S : Sm w0 F Lb w ⟨σ, bx, h⟩ a.tmps g) (hr : rowsV σ k h (List.replicate n z) ps = some (rows, h1)) (hid : h1 id = none) (hnl : isLent id = false) :
    OpOk P w0 F Lb w σ bx (hnew h1 id (.l true k rows)) a.tmps (execOp a.eval o) (.r id [] k 0 rows.length) := by
  obtain ⟨c0, hc0, hcr, hrun⟩ := buildSlice_run (parts := []) (cells := #[]) he hok hz hn
  have hzl : z.length = k := by obtain ⟨_, _, _, _, _, _, h1, _⟩ := elemOk_spec hok hz; exact h1
  obtain ⟨cells, g1, B, f1, f2, f3, f4, M⟩ := fillL (.none S) hp (rows := List.replicate n z) (fun r hr => by rw [(List.mem_replicate.1 hr).2]; exact hzl) (hcr w F) hr
  have hln : rows.length = n := by simpa using f4
  have hsz : cells.size = n * k := by have := f2.len; rw [flatten_len f3, hln] at this; simpa using this.symm
  obtain ⟨g', S', hs⟩ := M.sm.row (el := e) (sz := k) (cap := n) (rows := rows) (arr := cells) (B := B) hid hnl f3 (by omega) hsz (by rw [List.take_of_length_le (by rw [hln]; simp; omega)]; exact f2) M.nd M.fr
  refine ⟨_, _, g', ?_, S', hs⟩
  rw [hln]
  simp only [execOp, ho, Sem.run_bind, hrun w _ cells (by rw [map_parts]; exact f1), Result.andThen_ok, Sem.run_pure]

/-! ### Structs -/
theorem places_of (P : Program) : ∀ (fs : List Field), (fs.all fun f => (P.info? f.type).isSome) = true → ∃ places : List (Nat × Nat), fs.mapM (fun f => (P.info? f.type).map fun i => (f.offset, i.size)) = some places ∧ ∀ (j : Nat) (f : Field) (i : TypeInfo), fs[j]? = some f → P.info? f.type = some i → places[j]? = some (f.offset, i.size)
  | [], _ => ⟨[], rfl, by simp⟩
  | f :: fs, h => by
    simp only [List.all_cons, Bool.and_eq_true] at h
    obtain ⟨ps, h1, h2⟩ := places_of P fs h.2
    obtain ⟨i, hi⟩ := Option.isSome_iff_exists.1 h.1
    refine ⟨(f.offset, i.size) :: ps, by simp [List.mapM_cons, hi, h1], fun j f' i' hf hi' => ?_⟩
    cases j with
    | zero =>
      simp only [List.getElem?_cons_zero, Option.some.injEq] at hf
      subst hf
      rw [hi] at hi'
      obtain rfl := Option.some.inj hi'
      rfl
    | succ j => simpa using h2 j f' i' (by simpa using hf) hi'

theorem fillB {fs : Array Field} {places : List (Nat × Nat)} (hpl : ∀ (j : Nat) (f : Field) (i : TypeInfo), fs.toList[j]? = some f → P.info? f.type = some i → places[j]? = some (f.offset, i.size)) (S : Sm w0 F Lb w ⟨σ, bx, h⟩ a.tmps g) :
    ∀ {parts : List (Nat × Operand)} {ps : List (Nat × Nat × Opd)} {qs : List (Nat × List SV)} {z : List SV} {cells : Array Value},
    opsM (fun (p : Nat × Operand) => match fs[p.1]? with
        | some f => match szC P f.type with
          | some (_, k) => (opdC P f.type p.2).map fun x => (f.offset, k, x)
          | none => none
        | none => none) parts = some ps → partsV σ ps = some qs → SRL w F bx h g z cells.toList → (∀ x ∈ cells.toList, oc x = true) → (∀ q ∈ qs, q.1 + q.2.length ≤ z.length) →
    ∃ cells' : Array Value, Instr.fill (places[·]?) cells (parts.map fun p => (p.1, a.eval p.2)) = some cells' ∧ SRL w F bx h g (fillS z qs) cells'.toList ∧ ∀ x ∈ cells'.toList, oc x = true
  | [], ps, qs, z, cells, hp, hq, hs, ho, hle => by
    simp only [opsM, Option.some.injEq] at hp
    subst hp
    simp only [partsV, Option.some.injEq] at hq
    subst hq
    exact ⟨cells, rfl, hs, ho⟩
  | (i, x) :: parts, ps, qs, z, cells, hp, hq, hs, ho, hle => by
    obtain ⟨y, ys, h1, h2, rfl⟩ := opsM_cons hp
    simp only at h1
    split at h1
    · rename_i f hf
      split at h1
      · rename_i b k hk
        obtain ⟨x', hx', rfl⟩ := Option.map_eq_some_iff.1 h1
        obtain ⟨_, inf, _, hinf, hsz, _⟩ := szC_spec hk
        simp only [partsV] at hq
        split at hq
        · rename_i cs qs' hcs hqs'
          split at hq
          · rename_i hl
            obtain rfl := Option.some.inj hq
            obtain ⟨k1, k2⟩ := cellsS_spec (opd_spec hx' S) hcs
            have hvs : (a.eval x).cells.size = k := by have := k1.len; simp at this; omega
            have hlen := hs.len
            have hle1 := hle (f.offset, cs) List.mem_cons_self
            have hpi : places[i]? = some (f.offset, k) := by rw [← hsz]; exact hpl i f inf (by simpa using hf) hinf
            obtain ⟨cells2, e1, e2⟩ := fill_cons (place := (places[·]?)) (cells := cells) (i := i) (rest := parts.map fun p => (p.1, a.eval p.2)) hpi hvs (by simp at hlen hle1; omega)
            have hs2 : SRL w F bx h g (z.take f.offset ++ cs ++ z.drop (f.offset + cs.length)) cells2.toList := by
              rw [e2, hl]
              exact ((hs.take _).append k1).append (hs.drop _)
            have ho2 : ∀ x ∈ cells2.toList, oc x = true := by
              intro v hv
              rw [e2] at hv
              simp only [List.mem_append] at hv
              rcases hv with (hv | hv) | hv
              · exact ho v (List.mem_of_mem_take hv)
              · exact k2 v hv
              · exact ho v (List.mem_of_mem_drop hv)
            have hzl : (z.take f.offset ++ cs ++ z.drop (f.offset + cs.length)).length = z.length := by simp at hle1 ⊢; omega
            obtain ⟨cells', f1, f2, f3⟩ := fillB hpl S h2 hqs' hs2 ho2 (fun q hq => by rw [hzl]; exact hle q (List.mem_cons_of_mem _ hq))
            exact ⟨cells', by rw [List.map_cons, e1]; exact f1, f2, f3⟩
          · cases hq
        · cases hq
      · cases h1
    · cases h1

theorem snd_build {t : TypeId} {fs : Array Field} {parts : Array (Nat × Operand)} {ps : List (Nat × Nat × Opd)} {qs : List (Nat × List SV)} {z : List T} (ho : o.op = .build t parts) (hu : P.underlying t = some (.struct fs)) (hz : zeroT P t = some z)
    (hall : (fs.all fun f => (P.info? f.type).isSome) = true)
    (hp : opsM (fun (p : Nat × Operand) => match fs[p.1]? with
        | some f => match szC P f.type with
          | some (_, k) => (opdC P f.type p.2).map fun x => (f.offset, k, x)
          | none => none
        | none => none) parts.toList = some ps) (S : Sm w0 F Lb w ⟨σ, bx, h⟩ a.tmps g) (hq : partsV σ ps = some qs) (hle : (qs.all fun q => decide (q.1 + q.2.length ≤ z.length)) = true) :
    OpOk P w0 F Lb w σ bx h a.tmps (execOp a.eval o) (.a (fillS (z.map .c) qs)) := by
  obtain ⟨i, v, hi, hzv, hcr⟩ := zeroT_spec hz
  have h1 := hcr w F
  obtain ⟨places, hm, hpl⟩ := places_of P fs.toList (by simpa using hall)
  obtain ⟨cells, f1, f2, f3⟩ := fillB hpl S hp hq (z := z.map .c) (cells := v.cells) (SRL.ofCR h1) h1.oc (fun q hq => by simpa using List.all_eq_true.1 hle q hq)
  have hb : P.built t (parts.map fun (i, x) => (i, a.eval x)).toList = some cells := by
    unfold Program.built
    rw [hi, hu]
    simp only [hzv, hm]
    rw [map_parts, ← f1]
    simp
  refine ⟨.agg cells, w, g, ?_, S, ?_⟩
  · simp only [execOp, ho, Sem.run_bind, run_build w t _ cells hb, Result.andThen_ok, Sem.run_pure]
  · simp only [SR]
    exact ⟨cells, rfl, f3, f2⟩
end
end AM

namespace AM
open Go

section
variable {P : Program} {w0 w w' : World} {F F' : FS} {Lb : Lent} {bx bx' : BX} {h h' : Heap} {g g' : Gh} {σ : Nat → SV} {tmps : Array Value} {a : Act} {o : Go.Oper}

theorem nodup_swap {X BL BM BR Y Bt : List Nat} {b : Nat} (h : (X ++ b :: (BL ++ (BM ++ BR)) ++ Y).Nodup) (ht : Bt.Nodup) (hd : ∀ x ∈ Bt, x ∉ X ++ b :: (BL ++ (BM ++ BR)) ++ Y) : (X ++ b :: (BL ++ (Bt ++ BR)) ++ Y).Nodup := by
  have h1 : (X ++ b :: (BL ++ BR) ++ Y).Nodup := by
    refine h.sublist ?_
    refine List.Sublist.append (List.Sublist.append (List.Sublist.refl _) ?_) (List.Sublist.refl _)
    exact List.Sublist.cons_cons _ (List.Sublist.append (List.Sublist.refl _) (List.sublist_append_right _ _))
  have hp : (X ++ b :: (BL ++ (Bt ++ BR)) ++ Y).Perm (Bt ++ (X ++ b :: (BL ++ BR) ++ Y)) := by
    have e1 : X ++ b :: (BL ++ (Bt ++ BR)) ++ Y = (X ++ b :: BL) ++ (Bt ++ (BR ++ Y)) := by simp
    have e2 : Bt ++ (X ++ b :: (BL ++ BR) ++ Y) = Bt ++ ((X ++ b :: BL) ++ (BR ++ Y)) := by simp
    rw [e1, e2]
    exact List.perm_append_comm_assoc _ _ _
  rw [hp.nodup_iff]
  refine List.nodup_append.2 ⟨ht, h1, fun x hx y hy e => ?_⟩
  subst e
  refine hd x hx ?_
  simp at hy ⊢
  rcases hy with hy | hy | hy | hy | hy <;> simp [hy]

theorem Inv.not_id (I : Inv w0 F Lb w bx h g) {id id' : Id} {t t' : T} {b : Nat} (ht : h id = some t) (hb : b ∈ g.fp id) (ht' : h id' = some t') (hne : id' ≠ id) : b ∉ g.fp id' := by
  intro hm
  have h1 := (I.ls id t ht).2.2 b hb
  have h2 := (I.ls id' t' ht').2.2 b hm
  rw [h1] at h2
  injection h2 with h2
  injection h2 with h2
  exact hne h2.symm
theorem Inv.not_bx (I : Inv w0 F Lb w bx h g) {id id' : Id} {t : T} {cs : List SV} {b : Nat} (ht : h id = some t) (hb : b ∈ g.fp id) (hc : bx id' = some cs) : g.bb id' ≠ b := by
  intro he
  have h1 := (I.ls id t ht).2.2 b hb
  have h2 := (I.bs id' cs hc).1
  rw [he, h1] at h2
  cases h2

/-- Cells of an owned list are written. -/
theorem Sm.write (S : Sm w0 F Lb w ⟨σ, bx, h⟩ tmps g) {id : Id} {p : Path} {t : T} {sz n cap b q : Nat} {rows rows' : List (List T)} {ts : List T} {vs : List Value} {Bt : List Nat} (ht : h id = some t) (hat : t.at p = some (.l true sz rows))
    (hh : hdr w (g.hd id) t p = some (.slice (some ⟨b, 0, none⟩) n cap)) (hne : rows ≠ []) (hc : CR w F ts vs Bt) (hn : Bt.Nodup) (hf : ∀ b ∈ Bt, Free bx h g b ∧ (w0.heap.size ≤ b ∨ Lb b))
    (hq : q + ts.length ≤ rows.length * sz) (hl : rows'.length = rows.length) (hu' : ∀ r ∈ rows', r.length = sz) (hfl : rows'.flatten = rows.flatten.take q ++ (ts ++ rows.flatten.drop (q + ts.length))) :
    ∃ arr el g', w.heap[b]? = some (.cells arr el (0, 0)) ∧ q + vs.length ≤ arr.size ∧
      Sm w0 F Lb (w.setRow b (arr.toList.take q ++ vs ++ arr.toList.drop (q + vs.length)).toArray) ⟨fun j => (σ j).kill id p, fun j => (bx j).map (killL id p), hput h id p (.l true sz rows')⟩ tmps g' := by
  have I := S.inv
  obtain ⟨h1, h2, h3⟩ := I.ls id t ht
  obtain ⟨hs, X, Bs, Y, hh2, hB, hcr, hback⟩ := h1.focus hat
  rw [hh] at hh2
  obtain rfl := Option.some.inj hh2
  cases hcr with
  | own0 _ => exact absurd rfl hne
  | @own _ _ B1 B2 _ _ _ _ arr el hb huni hle hsz hcells hnil =>
    cases hnil
    have hvl : vs.length = ts.length := hc.len.symm
    have e1 : rows.flatten = rows.flatten.take q ++ ((rows.flatten.drop q).take ts.length ++ rows.flatten.drop (q + ts.length)) := by
      rw [← List.drop_drop, List.take_append_drop, List.take_append_drop]
    have hflen := flatten_len huni
    rw [e1] at hcells
    obtain ⟨vL, v23, BL, B23, hv, rfl, cL, c23⟩ := CR.split hcells
    obtain ⟨vM, vR, BM, BR, rfl, rfl, cM, cR⟩ := CR.split c23
    have lL : vL.length = q := by rw [← cL.len, List.length_take]; omega
    have lM : vM.length = ts.length := by rw [← cM.len, List.length_take, List.length_drop]; omega
    have hbig : rows.length * sz ≤ arr.size := by rw [hsz]; exact Nat.mul_le_mul_right _ hle
    rw [List.append_nil] at hB
    have hbin : b ∈ g.fp id := by rw [hB]; simp
    have hFb : ¬ F b := I.F_not (by rw [h3 b hbin]; simp)
    generalize harr' : (arr.toList.take q ++ vs ++ arr.toList.drop (q + vs.length)).toArray = arr'
    have htk : arr'.toList.take (rows.length * sz) = vL ++ (vs ++ vR) := by
      rw [← harr']
      have e2 : arr.toList = (vL ++ (vM ++ vR)) ++ arr.toList.drop (rows.length * sz) := by
        conv => lhs; rw [← List.take_append_drop (rows.length * sz) arr.toList]
        rw [hv]
      have l3 : (vL ++ (vM ++ vR)).length = rows.length * sz := by
        rw [← hv, List.length_take, Array.length_toList]
        exact Nat.min_eq_left hbig
      have e3 : arr.toList.take q = vL := by rw [e2, ← lL]; simp
      have e4 : arr.toList.drop (q + vs.length) = vR ++ arr.toList.drop (rows.length * sz) := by
        conv => lhs; rw [e2]
        rw [hvl, ← lM, ← lL, ← List.length_append]
        rw [show vL ++ (vM ++ vR) ++ List.drop (rows.length * sz) arr.toList = (vL ++ vM) ++ (vR ++ List.drop (rows.length * sz) arr.toList) by simp]
        simp
      rw [e3, e4]
      have : (vL ++ (vs ++ vR)).length = rows.length * sz := by rw [← l3]; simp; omega
      rw [← this, show vL ++ vs ++ (vR ++ List.drop (vL ++ (vs ++ vR)).length arr.toList) = (vL ++ (vs ++ vR)) ++ List.drop (vL ++ (vs ++ vR)).length arr.toList by simp only [List.append_assoc]]
      exact List.take_left
    have hsz' : arr'.size = cap * sz := by
      rw [← harr']
      simp
      omega
    have hw : ∀ c, c ≠ b → (w.setRow b arr').heap[c]? = w.heap[c]? := fun c hc => setRow_other w b c _ hc
    have hF : ∀ (ad : Addr) x, F ad.block → w.cell? ad = some x → (w.setRow b arr').cell? ad = some x := fun ad x hFa hx => by
      rw [cell_setRow_other w b _ ad (fun e => hFb (e ▸ hFa))]; exact hx
    rw [hB] at h2
    have hndB : ∀ x ∈ BL ++ (BM ++ BR), x ≠ b := by
      intro x hx e
      rw [List.append_assoc] at h2
      have := (List.nodup_append.1 h2).2.1
      have := (List.nodup_append.1 this).1
      exact (List.nodup_cons.1 this).1 (e ▸ hx)
    have hndXY : ∀ x ∈ X ++ Y, x ≠ b := by
      intro x hx e
      subst e
      rw [List.append_assoc] at h2
      obtain ⟨k1, k2, k3⟩ := List.nodup_append.1 h2
      rcases List.mem_append.1 hx with hx | hx
      · exact k3 _ hx _ (by simp) rfl
      · exact (List.nodup_append.1 k2).2.2 _ (by simp) _ hx rfl
    have hBt : ∀ x ∈ Bt, x ≠ b := fun x hx e => (hf x hx).1.1 id t ht (e ▸ hbin)
    have hnew : CR (w.setRow b arr') F rows'.flatten (arr'.toList.take (rows'.length * sz)) (BL ++ (Bt ++ BR)) := by
      rw [hl, htk, hfl]
      have := cL.append (hc.append cR)
      refine this.frame (fun c hc => hw c ?_) hF (fun _ h => h)
      rcases List.mem_append.1 hc with hc | hc
      · exact hndB c (by simp [hc])
      · rcases List.mem_append.1 hc with hc | hc
        · exact hBt c hc
        · exact hndB c (by simp [hc])
    have hown := CR.own (w := w.setRow b arr') (F := F) (setRow_heap w b arr arr' el (0, 0) hb) hu' (by rw [hl]; exact hle) hsz' hnew .nil
    rw [hl, List.append_nil] at hown
    obtain ⟨hc', hp'⟩ := hback (w.setRow b arr') F (.l true sz rows') _ (fun c hc => hw c (hndXY c hc)) hF (fun _ h => h) hown
    have hnd' : (X ++ b :: (BL ++ (Bt ++ BR)) ++ Y).Nodup := nodup_swap h2 hn (fun x hx hm => (hf x hx).1.1 id t ht (by rw [hB]; exact hm))
    let g' : Gh := { g with fp := fun j => if j = id then X ++ b :: (BL ++ (Bt ++ BR)) ++ Y else g.fp j, ow := fun c => if c ∈ Bt then some (.inl id) else g.ow c }
    have hoth : ∀ id' t', h id' = some t' → id' ≠ id → ∀ c ∈ g.fp id', (w.setRow b arr').heap[c]? = w.heap[c]? := fun id' t' ht' hne c hc => hw c fun e => I.not_id ht hbin ht' hne (e ▸ hc)
    have E : Ext F (fun id' q => id' = id → q <+: p) w bx h g (w.setRow b arr') (fun j => (bx j).map (killL id p)) (hput h id p (.l true sz rows')) g' := by
      refine ⟨hF, fun id' t' q ht' hk => ?_, fun id' cs hcs => ⟨⟨_, by rw [hcs]; rfl⟩, rfl⟩⟩
      by_cases e : id' = id
      · subst e
        rw [ht] at ht'
        obtain rfl := Option.some.inj ht'
        refine ⟨t.set p (.l true sz rows'), by simp [hput, ht], fun sz2 rows2 hq2 => ?_⟩
        have hpre := hk rfl
        by_cases eq : q = p
        · subst eq
          rw [at_set_self hat] at hq2
          injection hq2 with hq2
          injection hq2 with _ e1 e2
          subst e1 e2
          exact ⟨rows, hat, hl.symm, hp' q hpre⟩
        · obtain ⟨s3, r3, r4, e1, e2, e3⟩ := at_set_prefix hat hpre eq hq2
          injection e1 with _ e4 e5
          subst e4 e5
          exact ⟨r3, e2, e3, hp' q hpre⟩
      · refine ⟨t', by simp [hput, e, ht'], fun sz2 rows2 hq2 => ⟨rows2, hq2, rfl, ?_⟩⟩
        exact hdr_frame (I.ls id' t' ht').1 hq2 (hoth id' t' ht' e) hF
    refine ⟨arr, el, g', hb, by omega, ?_⟩
    rw [harr']
    refine ⟨⟨I.FB, fun id' t' ht' => ?_, fun id' cs hcs => ?_, fun c hc => ?_, fun c hcl hcn => ?_, by rw [setRow_size]; exact I.sz, I.os, I.pin⟩, fun x => ?_⟩
    rotate_left 4
    · exact SR.ext E (keeps_kill id p _) (SR.kill id p (S.sl x))
    · by_cases e : id' = id
      · subst e
        simp only [hput, if_true, ht, Option.map_some, Option.some.injEq] at ht'
        subst ht'
        refine ⟨by simpa [g'] using hc', by simpa [g'] using hnd', fun c hc => ?_⟩
        simp only [g', if_true] at hc ⊢
        split
        · rfl
        · rename_i hcb
          refine h3 c ?_
          rw [hB]
          simp at hc ⊢
          rcases hc with hc | hc | hc | hc | hc | hc
          · simp [hc]
          · simp [hc]
          · simp [hc]
          · exact absurd hc hcb
          · simp [hc]
          · simp [hc]
      · simp only [hput, e, if_false] at ht'
        obtain ⟨k1, k2, k3⟩ := I.ls id' t' ht'
        refine ⟨by simpa [g', e] using k1.frame (hoth id' t' ht' e) hF (fun _ h => h), by simpa [g', e] using k2, fun c hc => ?_⟩
        simp only [g', e, if_false] at hc ⊢
        rw [if_neg (fun hb => (hf c hb).1.1 id' t' ht' hc)]
        exact k3 c hc
    · obtain ⟨cs0, hcs0, rfl⟩ := Option.map_eq_some_iff.1 hcs
      obtain ⟨k1, arr2, el2, k2, k3, k4⟩ := I.bs id' cs0 hcs0
      refine ⟨?_, arr2, el2, ?_, k3, SRL.ext E (keepsL_kill id p _) (SRL.kill id p k4)⟩
      · simp only [g']
        rw [if_neg (fun hb => (hf _ hb).1.2 id' cs0 hcs0 rfl)]
        exact k1
      · show (w.setRow b arr').heap[g.bb id']? = _
        rw [hw _ (I.not_bx ht hbin hcs0)]
        exact k2
    · simp only [g'] at hc
      split at hc
      · rename_i hcb; exact (hf c hcb).2
      · exact I.ow c hc
    · rw [hw c (fun e => ?_)]
      · exact I.fr c hcl hcn
      · subst e
        rcases I.ow c (by rw [h3 c hbin]; simp) with h5 | h5
        · omega
        · exact hcn h5

theorem Sm.setBox (S : Sm w0 F Lb w ⟨σ, bx, h⟩ tmps g) {id : Id} {cs cs' : List SV} {arr' : Array Value} (hb : bx id = some cs) (ho : ∀ x ∈ arr'.toList, oc x = true) (hs : SRL w F bx h g cs' arr'.toList) :
    Sm w0 F Lb (w.setRow (g.bb id) arr') ⟨σ, bnew bx id cs', h⟩ tmps g := by
  have I := S.inv
  obtain ⟨h1, arr, el, ha, _, _⟩ := I.bs id cs hb
  have hw : ∀ c, c ≠ g.bb id → (w.setRow (g.bb id) arr').heap[c]? = w.heap[c]? := fun c hc => setRow_other w _ c _ hc
  have hFb : ¬ F (g.bb id) := I.F_not (by rw [h1]; simp)
  have hF : ∀ (ad : Addr) x, F ad.block → w.cell? ad = some x → (w.setRow (g.bb id) arr').cell? ad = some x := fun ad x hFa hx => by
    have hne : ad.block ≠ g.bb id := fun e => hFb (by rw [← e]; exact hFa)
    rw [cell_setRow_other w (g.bb id) arr' ad hne]; exact hx
  have hoth : ∀ id' t', h id' = some t' → ∀ c ∈ g.fp id', (w.setRow (g.bb id) arr').heap[c]? = w.heap[c]? := fun id' t' ht' c hc => hw c fun e => I.not_bx ht' hc hb e.symm
  have E : Ext F (fun _ _ => True) w bx h g (w.setRow (g.bb id) arr') (bnew bx id cs') h g := by
    refine ⟨hF, fun id' t' q ht' _ => ⟨t', ht', fun sz2 rows2 hq2 => ⟨rows2, hq2, rfl, hdr_frame (I.ls id' t' ht').1 hq2 (hoth id' t' ht') hF⟩⟩, fun id' cs2 hcs => ⟨?_, rfl⟩⟩
    by_cases e : id' = id
    · exact ⟨cs', by simp [bnew, e]⟩
    · exact ⟨cs2, by simp [bnew, e, hcs]⟩
  refine S.handed ⟨I.FB, fun id' t' ht' => ?_, fun id' cs2 hcs => ?_, I.ow, fun c hcl hcn => ?_, by rw [setRow_size]; exact I.sz, I.os, I.pin⟩ E
  · obtain ⟨k1, k2, k3⟩ := I.ls id' t' ht'
    exact ⟨k1.frame (hoth id' t' ht') hF (fun _ h => h), k2, k3⟩
  · by_cases e : id' = id
    · subst e
      simp only [bnew, if_true, Option.some.injEq] at hcs
      subst hcs
      exact ⟨h1, arr', el, setRow_heap w _ arr arr' el (0, 0) ha, ho, SRL.ext E (keepsL_true _) hs⟩
    · simp only [bnew, e, if_false] at hcs
      obtain ⟨k1, arr2, el2, k2, k3, k4⟩ := I.bs id' cs2 hcs
      refine ⟨k1, arr2, el2, ?_, k3, SRL.ext E (keepsL_true _) k4⟩
      rw [hw _ (fun he => ?_)]
      · exact k2
      · rw [he, h1] at k1
        injection k1 with k1
        injection k1 with k1
        exact e k1.symm
  · rw [hw c (fun e => ?_)]
    · exact I.fr c hcl hcn
    · subst e
      rcases I.ow _ (by rw [h1]; simp) with h5 | h5
      · omega
      · exact hcn h5

/-! ### Stores -/
theorem storeAt_run {t : TypeId} {ag : Bool} {k b c : Nat} {v : Value} {cur : Array Value} {el : TypeId} (hsz : szC P t = some (ag, k)) (hv : v.cells.size = k) (hb : w.heap[b]? = some (.cells cur el (0, 0))) (hl : c + k ≤ cur.size) (ho : ∀ x ∈ v.cells.toList, oc x = true) :
    (Instr.storeAt t (.pointer (some ⟨b, c, none⟩)) v).run P w = .ok () (w.setRow b (cur.toList.take c ++ v.cells.toList ++ cur.toList.drop (c + k)).toArray) := by
  obtain ⟨d, i, hd, hi, hk, rfl⟩ := szC_spec hsz
  have := run_storeCells_at P b c el v.cells.toList 0 cur w hb (by simp; omega) ho
  simp only [Nat.add_zero, Array.length_toList, hv] at this
  have h1 : ¬ v.cells.size ≠ i.size := by omega
  simp only [Instr.storeAt, Instr.sureAddr, Sem.run_bind, Sem.run_pure, Result.andThen_ok, storeVar, sizeOf_run hi, if_neg h1, this]

/-- What an operation that stores comes to. -/
def StOk (P : Program) (w0 : World) (F : FS) (Lb : Lent) (w : World) (s' : St) (tmps : Array Value) (m : Sem Next) : Prop :=
  ∃ w' g', m.run P w = .ok .skip w' ∧ Sm w0 F Lb w' s' tmps g'

theorem snd_stb {t : TypeId} {x : Operand} {n : Nat} {x' : Opd} {ag : Bool} {k f : Nat} {id : Id} {xs cs : List SV} (ho : o.op = .store t (.tmp n) x) (h1 : opdC P t x = some x') (hsz : szC P t = some (ag, k)) (S : Sm w0 F Lb w ⟨σ, bx, h⟩ a.tmps g)
    (hp : σ n = .b id f) (hx : cellsS (x'.ev σ) = some xs) (hb : bx id = some cs) (hl : f + k ≤ cs.length) (hxl : xs.length = k) :
    StOk P w0 F Lb w ⟨σ, bnew bx id (cs.take f ++ xs ++ cs.drop (f + k)), h⟩ a.tmps (execOp a.eval o) := by
  have hpt : SR w F bx h g (σ n) (a.tmps.getD n undef) := S.sl n
  rw [hp] at hpt
  simp only [SR] at hpt
  obtain ⟨h2, h3⟩ := cellsS_spec (opd_spec h1 S) hx
  obtain ⟨k1, arr, el, ha, hoc, hs⟩ := S.inv.bs id cs hb
  have hvs : (a.eval x).cells.size = k := by have := h2.len; simp at this; omega
  have hlen : cs.length = arr.size := by simpa using hs.len
  have run := storeAt_run (c := f) hsz hvs ha (by omega) h3
  refine ⟨_, g, ?_, S.setBox hb (arr' := (arr.toList.take f ++ (a.eval x).cells.toList ++ arr.toList.drop (f + k)).toArray) ?_ ?_⟩
  · have e : a.eval (.tmp n) = .pointer (some ⟨g.bb id, f, none⟩) := hpt.2
    simp only [execOp, ho, e, Sem.run_bind, run, Result.andThen_ok, Sem.run_pure]
  · intro v hv
    simp only [List.mem_append] at hv
    rcases hv with (hv | hv) | hv
    · exact hoc v (List.mem_of_mem_take hv)
    · exact h3 v hv
    · exact hoc v (List.mem_of_mem_drop hv)
  · exact ((hs.take f).append h2).append (hs.drop _)

theorem take_append_cut {α : Type} {l : List (List α)} {sz i : Nat} {row : List α} (hu : ∀ r ∈ l, r.length = sz) (hi : l[i]? = some row) {f : Nat} (hf : f ≤ row.length) :
    l.flatten.take (i * sz + f) = (l.take i).flatten ++ row.take f ∧ l.flatten.drop (i * sz + f) = row.drop f ++ (l.drop (i + 1)).flatten := by
  have hlt : i < l.length := (List.getElem?_eq_some_iff.1 hi).1
  have e : l.flatten = (l.take i).flatten ++ (row ++ (l.drop (i + 1)).flatten) := by
    conv => lhs; rw [← List.take_append_drop i l]
    rw [List.flatten_append, List.drop_eq_getElem_cons hlt, List.flatten_cons, (List.getElem?_eq_some_iff.1 hi).2]
  have hl : (l.take i).flatten.length = i * sz := by
    have : ∀ r ∈ l.take i, r.length = sz := fun r hr => hu r (List.mem_of_mem_take hr)
    rw [List.length_flatten]
    have h2 : (l.take i).map List.length = List.replicate i sz := by
      rw [List.eq_replicate_iff]
      refine ⟨by simp; omega, fun b hb => ?_⟩
      obtain ⟨r, hr, rfl⟩ := List.mem_map.1 hb
      exact this r hr
    rw [h2]
    simp
  rw [e, ← hl]
  constructor
  · rw [List.take_length_add_append, List.take_append_of_le_length hf]
  · rw [List.drop_length_add_append, List.drop_append_of_le_length hf]

theorem snd_store {t : TypeId} {x y : Operand} {a' x' : Opd} {ag : Bool} {k i f sz : Nat} {id : Id} {p : Path} {ts : List T} {h1 : Heap} {rows : List (List T)} {row : List T} (ho : o.op = .store t y x) (e1 : opdC P 0 y = some a') (e2 : opdC P t x = some x') (hsz : szC P t = some (ag, k)) (S : Sm w0 F Lb w ⟨σ, bx, h⟩ a.tmps g)
    (hp : a'.ev σ = .p id p sz i f) (hx : mvC h (x'.ev σ) = some (ts, h1)) (hq : hat h1 id p = some (.l true sz rows)) (hrow : rows[i]? = some row) (hl : f + k ≤ row.length) (htl : ts.length = k) :
    StOk P w0 F Lb w ⟨fun j => (σ j).kill id p, fun j => (bx j).map (killL id p), hput h1 id p (.l true sz (rows.set i (row.take f ++ ts ++ row.drop (f + k))))⟩ a.tmps (execOp a.eval o) := by
  obtain ⟨g1, B, hcr, M⟩ := S.mvC (opd_spec e2 S) hx
  have S1 := M.sm
  have k1 := opd_spec e1 S1
  rw [hp] at k1
  simp only [SR] at k1
  obtain ⟨_, t0, ht, k1⟩ := k1
  obtain ⟨t1, ht1, hat⟩ := Option.bind_eq_some_iff.1 hq
  rw [ht] at ht1
  obtain rfl := Option.some.inj ht1
  have hilt : i < rows.length := (List.getElem?_eq_some_iff.1 hrow).1
  obtain ⟨b, n, cap, hh, hv⟩ := k1 rows hat hilt
  have hne : rows ≠ [] := by intro e; rw [e] at hilt; simp at hilt
  have huni : ∀ r ∈ rows, r.length = sz := by
    obtain ⟨hs, X, Bs, Y, hh2, hB, hcr2, _⟩ := (S1.inv.ls id t0 ht).1.focus hat
    cases hcr2 with
    | own0 _ => exact absurd rfl hne
    | own _ hu _ _ _ _ => exact hu
  have hrl : row.length = sz := huni row (List.mem_of_getElem? hrow)
  have hnl : (row.take f ++ ts ++ row.drop (f + k)).length = sz := by simp; omega
  obtain ⟨s1, s2, s3, s4⟩ := set_flat huni hilt hnl
  have hle : (i + 1) * sz ≤ rows.length * sz := Nat.mul_le_mul_right _ hilt
  rw [Nat.succ_mul] at hle
  obtain ⟨c1, _⟩ := take_append_cut huni hrow (f := f) (by omega)
  obtain ⟨_, c2⟩ := take_append_cut huni hrow (f := f + k) (by omega)
  obtain ⟨arr, el, g', hb, hsz2, S'⟩ := S1.write (rows' := rows.set i (row.take f ++ ts ++ row.drop (f + k))) (q := i * sz + f) ht hat hh hne hcr M.nd M.fr (by omega) (by simp) s4 (by
    rw [s1, c1, htl, Nat.add_assoc, c2]; simp)
  have hvs : (a.eval x).cells.size = k := by have := hcr.len; simp at this; omega
  have hvl : (a.eval x).cells.toList.length = k := by simpa using hvs
  rw [hvl] at hsz2 S'
  have run := storeAt_run (c := i * sz + f) hsz hvs hb hsz2 hcr.oc
  refine ⟨_, g', ?_, S'⟩
  simp only [execOp, ho, hv, Sem.run_bind, run, Result.andThen_ok, Sem.run_pure]
end
end AM

namespace AM
open Go

section
variable {P : Program} {w0 w w' : World} {F F' : FS} {Lb : Lent} {bx bx' : BX} {h h' : Heap} {g g' : Gh} {σ : Nat → SV} {tmps : Array Value} {a : Act} {o : Go.Oper}

/-- Where a slice's elements lie. -/
def Lies (w : World) (ad : Option Addr) (ws : List Value) : Prop := (ad = none → ws = []) ∧ ∀ x, ad = some x → ∀ j u, ws[j]? = some u → w.cell? (x.add j) = some u
theorem Lies.nil (ad : Option Addr) : Lies w ad [] := ⟨fun _ => rfl, fun _ _ j u hj => by simp at hj⟩
theorem Lies.take {ad : Option Addr} {ws : List Value} (hl : Lies w ad ws) (n : Nat) : Lies w ad (ws.take n) := by
  refine ⟨fun e => by rw [hl.1 e, List.take_nil], fun x e j u hj => hl.2 x e j u ?_⟩
  rw [List.getElem?_take] at hj
  split at hj
  · exact hj
  · cases hj
theorem firstCells_run {size n len cap : Nat} {ad : Option Addr} {ws : List Value} (hl : Lies w ad ws) (hn : ws.length = n * size) : (Builtin.firstCells size n (.slice ad len cap)).run P w = .ok ws.toArray w := by
  cases ad with
  | none => rw [hl.1 rfl]; exact run_firstCells_none w size n len cap
  | some x => exact run_firstCells_some w size n x len cap ws hn (hl.2 x rfl)

theorem CR.lies {ow : Bool} {sz lo n : Nat} {rows : List (List T)} {hs v : Value} {B : List Nat} (hc : CR w F [.l ow sz rows] [hs] B) (hn : lo + n ≤ rows.length) (hv : subH hs sz lo n v) :
    ∃ ad cap ws B', v = .slice ad n cap ∧ n ≤ cap ∧ CR w F ((rows.drop lo).take n).flatten ws B' ∧ List.Sublist B' B ∧ (∀ r ∈ (rows.drop lo).take n, r.length = sz) ∧ Lies w ad ws ∧ ws.length = n * sz := by
  by_cases h0 : n = 0
  · subst h0
    have : ∃ ad cap, v = .slice ad 0 cap := by
      cases hs <;> first | (exact hv.elim) | skip
      obtain ⟨_, _, ad, rfl, _⟩ := hv
      exact ⟨_, _, rfl⟩
    obtain ⟨ad, cap, rfl⟩ := this
    exact ⟨ad, cap, [], [], rfl, Nat.zero_le _, by simpa using CR.nil, List.nil_sublist _, by simp, .nil ad, by simp⟩
  · have e : rows.flatten = (rows.take lo).flatten ++ (((rows.drop lo).take n).flatten ++ ((rows.drop lo).drop n).flatten) := by
      rw [← List.flatten_append, List.take_append_drop, ← List.flatten_append, List.take_append_drop]
    cases hc with
    | imm0 _ => simp at hn; omega
    | own0 _ => simp at hn; omega
    | @imm _ _ ws _ _ cap _ ad hF hsp hu hl hcell hfl hr =>
      obtain ⟨h1, h2, ad2, rfl, had⟩ := hv
      have hne : cap ≠ lo := by omega
      obtain rfl := had.resolve_left hne
      rw [e] at hfl
      obtain ⟨v1, v23, B1, B23, rfl, hB, c1, c23⟩ := CR.split hfl
      obtain ⟨rfl, rfl⟩ := List.append_eq_nil_iff.1 hB.symm
      obtain ⟨v2, v3, B2, B3, rfl, hB, c2, c3⟩ := CR.split c23
      obtain ⟨rfl, rfl⟩ := List.append_eq_nil_iff.1 hB.symm
      have hl1 : v1.length = lo * sz := by
        rw [← c1.len, flatten_len (fun r hr => hu r (List.mem_of_mem_take hr)), List.length_take, Nat.min_eq_left (by omega)]
      have hu2 : ∀ r ∈ (rows.drop lo).take n, r.length = sz := fun r hr => hu r (List.mem_of_mem_drop (List.mem_of_mem_take hr))
      have hlen : ((rows.drop lo).take n).length = n := by rw [List.length_take, List.length_drop]; omega
      obtain ⟨blk, off, sp⟩ := ad
      simp only at hsp hF hcell
      subst hsp
      refine ⟨_, _, v2, [], rfl, by omega, c2, List.nil_sublist _, hu2, ⟨fun e => by simp at e, fun x ex j u hj => ?_⟩, by rw [← c2.len, flatten_len hu2, hlen]⟩
      simp only [Option.map_some, Option.some.injEq] at ex
      subst ex
      rw [add_none, add_none]
      have hlt : j < v2.length := (List.getElem?_eq_some_iff.1 hj).1
      have := hcell (lo * sz + j) u (by rw [List.getElem?_append_right (by omega), List.getElem?_append_left (by omega), hl1]; simpa using hj)
      simpa [Nat.add_assoc] using this
    | @own _ _ B1 B2 _ cap b _ arr el hb hu hl hsz hcells hr =>
      cases hr
      obtain ⟨h1, h2, ad2, rfl, had⟩ := hv
      have hne : cap ≠ lo := by omega
      obtain rfl := had.resolve_left hne
      rw [e] at hcells
      obtain ⟨v1, v23, Ba, B23, hvs, rfl, c1, c23⟩ := CR.split hcells
      obtain ⟨v2, v3, Bb, Bc, rfl, rfl, c2, c3⟩ := CR.split c23
      have hl1 : v1.length = lo * sz := by
        rw [← c1.len, flatten_len (fun r hr => hu r (List.mem_of_mem_take hr)), List.length_take, Nat.min_eq_left (by omega)]
      have hu2 : ∀ r ∈ (rows.drop lo).take n, r.length = sz := fun r hr => hu r (List.mem_of_mem_drop (List.mem_of_mem_take hr))
      have hlen : ((rows.drop lo).take n).length = n := by rw [List.length_take, List.length_drop]; omega
      refine ⟨_, _, v2, Bb, rfl, by omega, c2, ?_, hu2, ⟨fun e => by (simp at e), fun x ex j u hj => ?_⟩, by rw [← c2.len, flatten_len hu2, hlen]⟩
      · rw [List.append_nil]
        exact ((List.sublist_append_left Bb Bc).trans (List.sublist_append_right Ba _)).trans (List.sublist_cons_self _ _)
      · simp only [Option.map_some, Option.some.injEq] at ex
        subst ex
        rw [add_none, add_none, cell_of hb]
        have hlt : j < v2.length := (List.getElem?_eq_some_iff.1 hj).1
        have : (arr.toList.take (rows.length * sz))[lo * sz + j]? = some u := by
          rw [hvs, List.getElem?_append_right (by omega), List.getElem?_append_left (by omega), hl1]; simpa using hj
        rw [List.getElem?_take] at this
        split at this
        · simpa using this
        · cases this

theorem Inv.sview (I : Inv w0 F Lb w bx h g) {s : SV} {v : Value} {sz : Nat} {rs : List (List T)} (hs : SR w F bx h g s v) (he : sview h s = some (sz, rs)) :
    ∃ ad cap ws B, v = .slice ad rs.length cap ∧ rs.length ≤ cap ∧ CR w F rs.flatten ws B ∧ (∀ r ∈ rs, r.length = sz) ∧ Lies w ad ws ∧ ws.length = rs.length * sz := by
  unfold AM.sview at he
  split at he
  · rename_i ow sz' rows
    obtain ⟨rfl, rfl⟩ := Prod.mk.inj (Option.some.inj he)
    simp only [SR] at hs
    have hsub : subH v sz' 0 rows.length v := by
      cases hs with
      | imm0 _ => exact subH_self (Nat.zero_le _)
      | imm _ _ _ hl _ _ _ => exact subH_self hl
      | own0 _ => exact subH_self (Nat.zero_le _)
    obtain ⟨ad, cap, ws, B', h1, h2, h3, _, h5, h6, h7⟩ := hs.lies (lo := 0) (n := rows.length) (by omega) hsub
    rw [List.drop_zero, List.take_length] at h3 h5
    exact ⟨ad, cap, ws, B', h1, h2, h3, h5, h6, h7⟩
  · rename_i id p s lo n
    split at he
    · rename_i sz' rows hq
      split at he
      · rename_i hlen
        obtain ⟨hlen, rfl⟩ := hlen
        obtain ⟨rfl, rfl⟩ := Prod.mk.inj (Option.some.inj he)
        obtain ⟨t0, ht, hat⟩ := Option.bind_eq_some_iff.1 hq
        simp only [SR] at hs
        obtain ⟨_, t1, ht1, hs⟩ := hs
        rw [ht] at ht1
        obtain rfl := Option.some.inj ht1
        obtain ⟨hv, hh, hsub⟩ := hs _ hat
        obtain ⟨hs2, X, Bs, Y, hh2, hB, hcr, _⟩ := (I.ls id t0 ht).1.focus hat
        rw [hh] at hh2
        obtain rfl := Option.some.inj hh2
        obtain ⟨ad, cap, ws, B', h1, h2, h3, _, h5, h6, h7⟩ := hcr.lies hlen hsub
        have hl : ((rows.drop lo).take n).length = n := by rw [List.length_take, List.length_drop]; omega
        rw [hl]
        exact ⟨ad, cap, ws, B', h1, h2, h3, h5, h6, h7⟩
      · cases he
    · cases he
  · cases he

theorem bytes_CR (w : World) (F : FS) : ∀ l : List UInt8, CR w F (l.map fun x => [T.v (.int .u8 x.toNat)]).flatten (l.map fun b => Value.int .u8 b.toNat) []
  | [] => .nil
  | x :: l => by
    simp only [List.map_cons, List.flatten_cons, List.singleton_append]
    exact .v _ rfl (bytes_CR w F l)

/-- What is appended: its cells, and whose they are. -/
theorem Sm.appSrc (S : Sm w0 F Lb w ⟨σ, bx, h⟩ tmps g) {s : SV} {v : Value} {sz : Nat} {mvs : Bool} {rs : List (List T)} {h1 : Heap} {tx : TypeId} (hk : (∃ e', P.underlying tx = some (.slice e')) ∨ P.underlying tx = some .string) (hs : SR w F bx h g s v) (he : appSrc h sz mvs s = some (rs, h1)) :
    ∃ ws B g1, Src P sz tx v rs.length ws w ∧ CR w F rs.flatten ws B ∧ (∀ r ∈ rs, r.length = sz) ∧ Mvd w0 F Lb w σ bx tmps h g h1 g1 B := by
  have src : ∀ {ad : Option Addr} {cap : Nat} {ws : List Value} {B : List Nat}, v = .slice ad rs.length cap → CR w F rs.flatten ws B → Lies w ad ws → ws.length = rs.length * sz → Src P sz tx v rs.length ws w := by
    rintro ad cap ws B rfl hc hl hn
    exact ⟨hk, fun _ => rfl, firstCells_run hl hn, firstCells_run (w := w.drew) ⟨hl.1, fun x e j u hj => hl.2 x e j u hj⟩ hn, hn, hc.oc⟩
  unfold AM.appSrc at he
  split at he
  · rename_i b
    split at he
    · rename_i h1'
      subst h1'
      obtain ⟨rfl, rfl⟩ := Prod.mk.inj (Option.some.inj he)
      obtain ⟨rfl, _⟩ := hs.scal'
      have hl : (bytesT b).length = b.size := by unfold bytesT; rw [List.length_map, Array.length_toList]; rfl
      refine ⟨byteCells b, [], g, ?_, bytes_CR w F _, fun r hr => ?_, .none S⟩
      · rw [hl]
        refine ⟨hk, fun _ => rfl, firstCells_string b w, firstCells_string b w.drew, by rw [byteCells_length, Nat.mul_one], fun u hu => ?_⟩
        obtain ⟨_, _, rfl⟩ := List.mem_map.1 hu
        rfl
      · simp only [bytesT, List.mem_map] at hr
        obtain ⟨_, _, rfl⟩ := hr
        rfl
    · cases he
  · rename_i id p s2 lo n
    split at he
    · split at he
      · rename_i s3 rs0 hq
        split at he
        · rename_i hlen
          obtain ⟨hlen, rfl, rfl⟩ := hlen
          obtain ⟨rfl, rfl⟩ := Prod.mk.inj (Option.some.inj he)
          obtain ⟨t0, ht, hat⟩ := Option.bind_eq_some_iff.1 hq
          simp only [SR] at hs
          obtain ⟨_, t1, ht1, hs⟩ := hs
          rw [ht] at ht1
          obtain rfl := Option.some.inj ht1
          obtain ⟨hv, hh, hsub⟩ := hs _ hat
          obtain ⟨hs2, B, g', hh2, hcr, hnd, hfr, hS, hE, hmono, hwas, hsame⟩ := S.hole ht hat
          rw [hh] at hh2
          obtain rfl := Option.some.inj hh2
          obtain ⟨ad, cap, ws, B', k1, k2, k3, k4, k5, k6, k7⟩ := hcr.lies hlen hsub
          have hl : ((rs0.drop lo).take n).length = n := by rw [List.length_take, List.length_drop]; omega
          refine ⟨ws, B', g', src (by rw [hl]; exact k1) k3 k6 (by rw [hl]; exact k7), k3, k5, ⟨hnd.sublist k4, fun b hb => hfr b (k4.subset hb), hS, hE, hmono, fun b hb hfree => ?_, fun j => hput_dom j, hsame⟩⟩
          obtain ⟨id', t', ht', hm⟩ := hwas b (k4.subset hb)
          exact hfree.1 id' t' ht' hm
        · cases he
      · cases he
    · split at he
      · rename_i s3 rs0 hq
        split at he
        · rename_i hc
          obtain ⟨rfl, himm⟩ := hc
          obtain ⟨rfl, rfl⟩ := Prod.mk.inj (Option.some.inj he)
          obtain ⟨ad, cap, ws, B, k1, k2, k3, k4, k5, k6⟩ := S.inv.sview hs hq
          rw [immLL_flatten] at himm
          obtain rfl := k3.immB himm
          exact ⟨ws, [], g, src k1 k3 k5 k6, k3, k4, .none S⟩
        · cases he
      · cases he
  · rename_i ow s3 rs0
    split at he
    · rename_i h1'
      subst h1'
      obtain ⟨rfl, rfl⟩ := Prod.mk.inj (Option.some.inj he)
      simp only [SR] at hs
      have hsub : subH v s3 0 rs0.length v := by
        cases hs with
        | imm0 _ => exact subH_self (Nat.zero_le _)
        | imm _ _ _ hl _ _ _ => exact subH_self hl
        | own0 _ => exact subH_self (Nat.zero_le _)
      obtain ⟨ad, cap, ws, B', k1, k2, k3, k4, k5, k6, k7⟩ := hs.lies (lo := 0) (n := rs0.length) (by omega) hsub
      rw [List.drop_zero, List.take_length] at k3 k5
      obtain rfl := List.sublist_nil.1 k4
      exact ⟨ws, [], g, src k1 k3 k6 k7, k3, k5, .none S⟩
    · cases he
  · cases he
end
end AM

namespace AM
open Go

section
variable {P : Program} {w0 w w' : World} {F F' : FS} {Lb : Lent} {bx bx' : BX} {h h' : Heap} {g g' : Gh} {σ : Nat → SV} {tmps : Array Value} {a : Act} {o : Go.Oper}

theorem nextslicecap_le {need cap : Nat} (hc : cap < need) : Builtin.nextslicecap need cap ≤ 2 * need := by
  unfold Builtin.nextslicecap
  split
  · omega
  · split
    · omega
    · rename_i h1 h2
      have key : ∀ n c, 256 ≤ c → c ≤ 2 * need → Builtin.growBy need n c ≤ 2 * need := by
        intro n
        induction n with
        | zero => intro c _ h; exact h
        | succ n ih =>
          intro c hc h
          unfold Builtin.growBy
          split
          · exact h
          · exact ih _ (by omega) (by omega)
      exact key 4 cap (by omega) (by omega)

/-- A block that nobody has is written. -/
theorem Sm.free (S : Sm w0 F Lb w ⟨σ, bx, h⟩ tmps g) {b : Nat} {arr' : Array Value} (hf : Free bx h g b) (hb : w0.heap.size ≤ b ∨ Lb b) : Sm w0 F Lb (w.setRow b arr') ⟨σ, bx, h⟩ tmps g ∧ Ext F (fun _ _ => True) w bx h g (w.setRow b arr') bx h g := by
  have I := S.inv
  have hw : ∀ c, c ≠ b → (w.setRow b arr').heap[c]? = w.heap[c]? := fun c hc => setRow_other w b c _ hc
  have hFb : ∀ c, F c → c ≠ b := fun c hc e => by
    obtain ⟨h1, h2⟩ := I.FB c hc
    subst e
    rcases hb with hb | hb
    · omega
    · exact h2 hb
  have hF : ∀ (ad : Addr) x, F ad.block → w.cell? ad = some x → (w.setRow b arr').cell? ad = some x := fun ad x hFa hx => by
    rw [cell_setRow_other w b arr' ad (hFb _ hFa)]; exact hx
  have hoth : ∀ id' t', h id' = some t' → ∀ c ∈ g.fp id', (w.setRow b arr').heap[c]? = w.heap[c]? := fun id' t' ht' c hc => hw c fun e => hf.1 id' t' ht' (e ▸ hc)
  have E : Ext F (fun _ _ => True) w bx h g (w.setRow b arr') bx h g :=
    ⟨hF, fun id' t' q ht' _ => ⟨t', ht', fun sz2 rows2 hq2 => ⟨rows2, hq2, rfl, hdr_frame (I.ls id' t' ht').1 hq2 (hoth id' t' ht') hF⟩⟩, fun id' cs2 hcs => ⟨⟨cs2, hcs⟩, rfl⟩⟩
  refine ⟨S.handed ⟨I.FB, fun id' t' ht' => ?_, fun id' cs2 hcs => ?_, I.ow, fun c hcl hcn => ?_, by rw [setRow_size]; exact I.sz, I.os, I.pin⟩ E, E⟩
  · obtain ⟨k1, k2, k3⟩ := I.ls id' t' ht'
    exact ⟨k1.frame (hoth id' t' ht') hF (fun _ h => h), k2, k3⟩
  · obtain ⟨k1, arr2, el2, k2, k3, k4⟩ := I.bs id' cs2 hcs
    refine ⟨k1, arr2, el2, ?_, k3, SRL.ext E (keepsL_true _) k4⟩
    rw [hw _ (hf.2 id' cs2 hcs)]
    exact k2
  · rw [hw c (fun e => ?_)]
    · exact I.fr c hcl hcn
    · subst e
      rcases hb with hb | hb
      · omega
      · exact hcn hb

theorem setCells_row {w : World} {b off : Nat} {cur : Array Value} {el : TypeId} {vs : List Value} (hb : w.heap[b]? = some (.cells cur el (0, 0))) (hl : off + vs.length ≤ cur.size) (ho : ∀ v ∈ vs, oc v = true) :
    w.setCells b off vs = w.setRow b (cur.toList.take off ++ vs ++ cur.toList.drop (off + vs.length)).toArray := by
  have h1 := run_storeCells_at (default : Program) b off el vs 0 cur w hb (by simpa using hl) ho
  have h2 := run_storeCells_cells (P := default) b off vs 0 w (fun j hj => by
    rw [Nat.add_zero, cell_of hb]
    have : off + j < cur.size := by omega
    simp [this]) (fun j hj => by simp [World.frozen?, hb]) ho
  rw [h1] at h2
  simp only [Nat.add_zero] at h2
  injection h2 with _ h2
  exact h2.symm

theorem snd_app {t u e : TypeId} {x y : Operand} {args : Array Operand} {ats : Array TypeId} {x' y' : Opd} {k : Nat} {mvs : Bool} {rows rs : List (List T)} {h1 h2 : Heap} {id : Id} (ho : o.op = .call { callee := .builtin .append, args := args, argTypes := ats }) (ha : args.toList = [x, y]) (hat : ats.toList = [t, u])
    (hk : (∃ e', P.underlying u = some (.slice e')) ∨ P.underlying u = some .string) (he : sliceElem P t = some (e, k)) (hok : elemOk P e k = true) (e1 : opdC P t x = some x') (e2 : opdC P u y = some y') (S : Sm w0 F Lb w ⟨σ, bx, h⟩ a.tmps g)
    (hx : mv1 h (x'.ev σ) = some (.l true k rows, h1)) (hy : appSrc h1 k mvs (y'.ev σ) = some (rs, h2)) (hlim : (rows.length + rs.length) * (k + 1) ≤ LIM) (hid : h2 id = none) (hnl : isLent id = false) :
    OpOk P w0 F Lb w σ bx (hnew h2 id (.l true k (rows ++ rs))) a.tmps (execOp a.eval o) (.r id [] k 0 (rows.length + rs.length)) := by
  obtain rfl : args = #[x, y] := by cases args; simp_all
  obtain rfl : ats = #[t, u] := by cases ats; simp_all
  obtain ⟨hu, d, inf0, hd, hinf, hsz⟩ := sliceElem_spec he
  obtain ⟨z, hz⟩ : ∃ z, zeroT P e = some z := by
    unfold elemOk at hok
    cases hz : zeroT P e with
    | none => simp [hz] at hok
    | some z => exact ⟨z, rfl⟩
  obtain ⟨i, zv, hi, hzv, hby, hzs, _, _⟩ := elemOk_spec hok hz
  rw [hi] at hinf
  obtain rfl := Option.some.inj hinf
  have hne : x'.ev σ = .u → oc (a.eval x) = true := fun e => by rw [e] at hx; simp [AM.mv1] at hx
  obtain ⟨g1, Bx, cx, Mx⟩ := S.mv1 (opd_spec e1 S) hne hx
  obtain ⟨ws, By, g2, src, cy, uy, My⟩ := Mx.sm.appSrc hk (opd_spec e2 Mx.sm) hy
  have M := Mx.trans My
  have hlim' : (rows.length + rs.length) * k + (rows.length + rs.length) ≤ 1099511627776 := by rw [Nat.mul_succ] at hlim; exact hlim
  rw [← hsz] at src
  have hwl : ws.length = rs.length * k := by rw [← hsz]; exact src.newsLen
  have run : ∀ w' v, (Builtin.append_ #[t, u] o.type #[a.eval x, a.eval y]).run P w = .ok v w' → (execOp a.eval o).run P w = .ok (.value v) w' := by
    intro w' v hv
    simp [execOp, ho, resolve, invoke, builtin, hv]
  have hgrow : ∀ (ad : Option Addr) (cap : Nat) (olds : List Value) (B1 : List Nat), a.eval x = .slice ad rows.length cap → CR w F rows.flatten olds B1 → Lies w ad olds → olds.length = rows.length * k → (∀ r ∈ rows, r.length = k) → (∀ b ∈ B1, b ∈ Bx) → B1.Nodup → cap < rows.length + rs.length →
      OpOk P w0 F Lb w σ bx (hnew h2 id (.l true k (rows ++ rs))) a.tmps (execOp a.eval o) (.r id [] k 0 (rows.length + rs.length)) := by
    intro ad cap olds B1 hx hc hl hol hux hsub hnd hlt
    have hfit : Builtin.nextslicecap (rows.length + rs.length) cap * i.bytes ≤ 281474976710656 := by
      have h3 := nextslicecap_le hlt
      have h4 : Builtin.nextslicecap (rows.length + rs.length) cap * i.bytes ≤ (2 * (rows.length + rs.length)) * (24 * k) := Nat.mul_le_mul h3 hby
      have h5 : (2 * (rows.length + rs.length)) * (24 * k) = 48 * ((rows.length + rs.length) * k) := by
        rw [Nat.mul_mul_mul_comm]
      omega
    have r := run_append_grow_src w t u o.type e i zv hu hi hzv ad rows.length cap olds (by rw [hsz]; exact firstCells_run (w := w.drew) ⟨hl.1, fun x e j u hj => hl.2 x e j u hj⟩ hol) (a.eval y) rs.length ws src hlt (by omega) hfit
    have hge := grownCap_ge w (rows.length + rs.length) cap e
    generalize hG : grownCap w (rows.length + rs.length) cap e = G at r hge
    have S2 := M.sm.drew
    have hBn : (B1 ++ By).Nodup := List.nodup_append.2 ⟨hnd, My.nd, fun x hx y hy e => My.was y hy (e ▸ (Mx.fr x (hsub x hx)).1)⟩
    have hall : ∀ r ∈ rows ++ rs, r.length = k := fun r hr => by
      rcases List.mem_append.1 hr with hr | hr
      · exact hux r hr
      · exact uy r hr
    have hzc : (Builtin.zeroCells zv.cells (G - (rows.length + rs.length))).size = (G - (rows.length + rs.length)) * k := by simp [Builtin.zeroCells, hzs]
    have hds : rows.length * k + rs.length * k = (rows.length + rs.length) * k := (Nat.add_mul _ _ _).symm
    have hcd : CR w.drew F (rows ++ rs).flatten (olds ++ ws) (B1 ++ By) := by
      rw [List.flatten_append]
      exact (hc.append cy).frame (w' := w.drew) (fun _ _ => rfl) (fun _ _ _ h => h) (fun _ h => h)
    obtain ⟨g', S', hs⟩ := S2.row (el := e) (sz := k) (cap := G) (rows := rows ++ rs) (arr := (olds ++ ws).toArray ++ Builtin.zeroCells zv.cells (G - (rows.length + rs.length))) (B := B1 ++ By) hid hnl hall (by simpa using hge)
      (by
        rw [Array.size_append, hzc]
        simp only [List.size_toArray, List.length_append, hol, hwl, hds]
        rw [← Nat.add_mul]
        congr 1
        omega)
      (by
        rw [Array.toList_append, List.take_left']
        · exact hcd
        · rw [List.length_append, List.length_append, hol, hwl, hds]) hBn (fun b hb => by
        rcases List.mem_append.1 hb with hb | hb
        · exact ⟨My.mono b (Mx.fr b (hsub b hb)).1, (Mx.fr b (hsub b hb)).2⟩
        · exact My.fr b hb)
    rw [List.length_append] at hs
    refine ⟨_, _, g', run _ _ ?_, S', hs⟩
    rw [hx, r]
    rfl
  generalize hvx : a.eval x = vx at cx run hgrow
  cases cx with
  | @own0 _ _ _ _ ad hc =>
    cases hc
    simp only [List.length_nil, Nat.zero_add, List.nil_append] at *
    by_cases h0 : rs.length = 0
    · obtain rfl := List.eq_nil_of_length_eq_zero h0
      have hws : ws = [] := List.eq_nil_of_length_eq_zero (by simpa using hwl)
      subst hws
      have r := run_append_nothing w t u o.type e i hu hi ad 0 0 (Nat.le_refl _) (a.eval y) src
      have hs0 : slLook 0 (.slice ad 0 0) := ⟨_, _, rfl, Nat.le_refl _, fun h => absurd h (by simp)⟩
      refine ⟨_, _, _, run _ _ r, M.sm.newL (B := []) hid hnl (.own0 .nil) List.nodup_nil (by simp), SR.root hs0⟩
    · exact hgrow ad 0 [] [] rfl (by simpa using CR.nil) (.nil ad) (by simp) (by simp) (by simp) List.nodup_nil (by omega)
  | @own _ _ B1 B2 _ cap b _ arr el hb hux hle hsz2 hcells hnil =>
    cases hnil
    have hBn : (b :: B1).Nodup := by have := Mx.nd; rwa [List.append_nil] at this
    have hbl : rows.length * k ≤ arr.size := by rw [hsz2]; exact Nat.mul_le_mul_right _ hle
    have hol : (arr.toList.take (rows.length * k)).length = rows.length * k := by rw [List.length_take, Array.length_toList]; exact Nat.min_eq_left hbl
    by_cases hroom : rows.length + rs.length ≤ cap
    · have hds : rows.length * k + rs.length * k = (rows.length + rs.length) * k := (Nat.add_mul _ _ _).symm
      have hbig : (rows.length + rs.length) * k ≤ arr.size := by rw [hsz2]; exact Nat.mul_le_mul_right _ hroom
      have hoffs : 0 + rows.length * i.size = rows.length * k := by rw [hsz, Nat.zero_add]
      have r := run_append_room_src w t u o.type e i hu hi b 0 rows.length cap (a.eval y) rs.length ws src hroom (fun j hj => by
          rw [hoffs, cell_of hb]
          have : rows.length * k + j < arr.size := by omega
          simp [this]) (fun j hj => by simp [World.frozen?, hb])
      rw [hoffs, setCells_row hb (by omega) src.one] at r
      generalize harr' : (arr.toList.take (rows.length * k) ++ ws ++ arr.toList.drop (rows.length * k + ws.length)).toArray = arr' at r
      have hbx : b ∈ b :: (B1 ++ []) := List.mem_cons_self
      obtain ⟨S2, E2⟩ := M.sm.free (b := b) (arr' := arr') (My.mono b (Mx.fr b hbx).1) (Mx.fr b hbx).2
      have hbB1 : ∀ c ∈ B1, c ≠ b := fun c hc e => (List.nodup_cons.1 hBn).1 (e ▸ hc)
      have hbBy : ∀ c ∈ By, c ≠ b := fun c hc e => My.was c hc (e ▸ (Mx.fr b hbx).1)
      have hcd : CR (w.setRow b arr') F (rows ++ rs).flatten (arr'.toList.take ((rows ++ rs).length * k)) (B1 ++ By) := by
        have e1 : arr'.toList.take ((rows ++ rs).length * k) = arr.toList.take (rows.length * k) ++ ws := by
          rw [← harr', List.take_left']
          rw [List.length_append, List.length_append, hol, hwl, hds]
        rw [e1, List.flatten_append]
        refine (hcells.append cy).frame (fun c hc => setRow_other w b c _ ?_) E2.F (fun _ h => h)
        rcases List.mem_append.1 hc with hc | hc
        · exact hbB1 c hc
        · exact hbBy c hc
      have hall : ∀ r ∈ rows ++ rs, r.length = k := fun r hr => by
        rcases List.mem_append.1 hr with hr | hr
        · exact hux r hr
        · exact uy r hr
      have hown := CR.own (w := w.setRow b arr') (F := F) (cap := cap) (sz := k) (setRow_heap w b arr arr' el (0, 0) hb) hall (by simpa using hroom) (by rw [← harr']; simp; omega) hcd .nil
      rw [List.append_nil, List.length_append] at hown
      refine ⟨_, _, _, run _ _ r, S2.newL hid hnl hown ?_ ?_, SR.root ⟨_, _, rfl, hroom, fun _ => ⟨_, _, rfl⟩⟩⟩
      · have := M.nd
        rw [List.append_nil] at this
        exact this
      · intro c hc
        have := M.fr c (by rw [List.append_nil]; exact hc)
        exact this
    · refine hgrow _ cap (arr.toList.take (rows.length * k)) B1 rfl hcells ⟨fun e => by simp at e, fun x ex j u hj => ?_⟩ hol hux (fun b hb => by simp [hb]) (List.nodup_cons.1 hBn).2 (by omega)
      obtain rfl := Option.some.inj ex
      rw [add_none, Nat.zero_add, cell_of hb]
      rw [List.getElem?_take] at hj
      split at hj
      · simpa using hj
      · cases hj
end
end AM

namespace AM
open Go

section
variable {P : Program} {w0 w w' : World} {F F' : FS} {Lb : Lent} {bx bx' : BX} {h h' : Heap} {g g' : Gh} {σ : Nat → SV} {tmps : Array Value} {a : Act} {o : Go.Oper}

theorem Sm.kill (S : Sm w0 F Lb w ⟨σ, bx, h⟩ tmps g) (id : Id) (p : Path) : Sm w0 F Lb w ⟨fun j => (σ j).kill id p, fun j => (bx j).map (killL id p), h⟩ tmps g := by
  have I := S.inv
  have E : Ext F (fun _ _ => True) w bx h g w (fun j => (bx j).map (killL id p)) h g :=
    ⟨fun _ _ _ h => h, fun id' t' q ht' _ => ⟨t', ht', fun sz2 rows2 hq2 => ⟨rows2, hq2, rfl, rfl⟩⟩, fun id' cs2 hcs => ⟨⟨_, by rw [hcs]; rfl⟩, rfl⟩⟩
  refine ⟨⟨I.FB, I.ls, fun id' cs2 hcs => ?_, I.ow, I.fr, I.sz, I.os, I.pin⟩, fun x => SR.ext E (keeps_true _) (SR.kill id p (S.sl x))⟩
  obtain ⟨cs0, hcs0, rfl⟩ := Option.map_eq_some_iff.1 hcs
  obtain ⟨k1, arr2, el2, k2, k3, k4⟩ := I.bs id' cs0 hcs0
  exact ⟨k1, arr2, el2, k2, k3, SRL.ext E (keepsL_true _) (SRL.kill id p k4)⟩

theorem CR.takeRows {k n : Nat} {rs : List (List T)} {ws : List Value} {B : List Nat} (hu : ∀ r ∈ rs, r.length = k) (hc : CR w F rs.flatten ws B) : ∃ B', CR w F (rs.take n).flatten (ws.take (Nat.min rs.length n * k)) B' := by
  have e : rs.flatten = (rs.take n).flatten ++ (rs.drop n).flatten := by rw [← List.flatten_append, List.take_append_drop]
  rw [e] at hc
  obtain ⟨v1, v2, B1, B2, rfl, rfl, c1, c2⟩ := CR.split hc
  have hl : v1.length = Nat.min rs.length n * k := by
    rw [← c1.len, flatten_len (fun r hr => hu r (List.mem_of_mem_take hr)), List.length_take]
    congr 1
    exact Nat.min_comm _ _
  exact ⟨B1, by rw [← hl]; simpa using c1⟩

theorem snd_cpy {t u e : TypeId} {x y : Operand} {args : Array Operand} {ats : Array TypeId} {x' y' : Opd} {k lo n s4 : Nat} {id : Id} {p : Path} {rows rs : List (List T)} (ho : o.op = .call { callee := .builtin .copy, args := args, argTypes := ats }) (ha : args.toList = [x, y]) (hat : ats.toList = [t, u])
    (he : sliceElem P t = some (e, k)) (e1 : opdC P t x = some x') (e2 : opdC P u y = some y') (S : Sm w0 F Lb w ⟨σ, bx, h⟩ a.tmps g)
    (hx : x'.ev σ = .r id p k lo n) (hy : sview h (y'.ev σ) = some (s4, rs)) (hq : AM.hat h id p = some (.l true k rows)) (hlo : lo + n ≤ rows.length) (h4 : s4 = k) (himm : immLL (rs.take n) = true) :
    OpOk P w0 F Lb w (fun j => (σ j).kill id p) (fun j => (bx j).map (killL id p)) (hput h id p (.l true k (rows.take lo ++ rs.take n ++ rows.drop (lo + Nat.min rs.length n)))) a.tmps (execOp a.eval o) (.c (.v (.int .i64 (Nat.min rs.length n)))) := by
  obtain rfl : args = #[x, y] := by cases args; simp_all
  obtain rfl : ats = #[t, u] := by cases ats; simp_all
  subst h4
  obtain ⟨hu, d, inf, hd, hinf, hsz⟩ := sliceElem_spec he
  have k1 := opd_spec e1 S
  rw [hx] at k1
  simp only [SR] at k1
  obtain ⟨⟨ad, cap, hv, hcap, hpos⟩, t0, ht, k1⟩ := k1
  obtain ⟨t1, ht1, hat⟩ := Option.bind_eq_some_iff.1 hq
  rw [ht] at ht1
  obtain rfl := Option.some.inj ht1
  obtain ⟨hv0, hh, hsub⟩ := k1 rows hat
  obtain ⟨ad2, cap2, ws, B, hv2, hcap2, hcr, hur, hlies, hwl⟩ := S.inv.sview (opd_spec e2 S) hy
  obtain ⟨B', hc'⟩ := hcr.takeRows (n := n) hur
  rw [immLL_flatten] at himm
  obtain rfl := hc'.immB himm
  have hmin : Nat.min rs.length n ≤ n := Nat.min_le_right _ _
  have hmin2 : Nat.min rs.length n ≤ rs.length := Nat.min_le_left _ _
  have hvl : (ws.take (Nat.min rs.length n * s4)).length = Nat.min rs.length n * s4 := by
    rw [List.length_take, hwl]
    exact Nat.min_eq_left (Nat.mul_le_mul_right _ hmin2)
  have fc := firstCells_run (P := P) (w := w) (size := s4) (n := Nat.min rs.length n) (len := rs.length) (cap := cap2) (hlies.take (Nat.min rs.length n * s4)) hvl
  by_cases h0 : Nat.min rs.length n = 0
  · have e3 : rs.take n = [] := by
      rcases Nat.min_eq_zero_iff.1 h0 with h0 | h0
      · rw [List.eq_nil_of_length_eq_zero h0]; simp
      · rw [h0]; simp
    have e4 : hput h id p (.l true s4 (rows.take lo ++ rs.take n ++ rows.drop (lo + Nat.min rs.length n))) = h := by
      funext j
      unfold hput
      split
      · rename_i ej
        subst ej
        rw [ht, e3, h0, List.append_nil, Nat.add_zero, List.take_append_drop, Option.map_some, set_self hat]
      · rfl
    rw [e4]
    have S' := S.kill id p
    refine ⟨_, w, g, ?_, S', .of_scal rfl⟩
    rw [h0] at fc
    rw [h0]
    simp only [Nat.zero_mul, List.take_zero] at fc
    cases ad <;> simp [execOp, ho, resolve, invoke, builtin, Builtin.copy_, hv, hv2, run_underlying hu, Builtin.lenOf, sizeOf_run hinf, hsz, h0, fc, goInt, storeCells]
  · have hn0 : n ≠ 0 := by omega
    obtain ⟨b0, c0, rfl⟩ := hpos (by omega)
    have hne : rows ≠ [] := by intro e; rw [e] at hlo; simp at hlo; omega
    have hown : ∃ b cp, hv0 = .slice (some ⟨b, 0, none⟩) rows.length cp ∧ rows.length ≤ cp ∧ ∀ r ∈ rows, r.length = s4 := by
      obtain ⟨hs, X, Bs, Y, hh2, hB, hcr2, _⟩ := (S.inv.ls id t0 ht).1.focus hat
      rw [hh] at hh2
      obtain rfl := Option.some.inj hh2
      cases hcr2 with
      | own0 _ => exact absurd rfl hne
      | own _ huu hle _ _ _ => exact ⟨_, _, rfl, hle, huu⟩
    obtain ⟨b, cp, rfl, hle, huni⟩ := hown
    obtain ⟨q1, q2, ad3, hv3, hq3⟩ := hsub
    rw [hv] at hv3
    injection hv3 with f1 f2 f3
    rcases hq3 with hq3 | hq3
    · omega
    rw [← f1, Option.map_some, add_none] at hq3
    injection hq3 with hq3
    injection hq3 with g1 g2 _
    subst g1
    rw [Nat.zero_add] at g2
    subst g2
    have hll : (rows.take lo).flatten.length = lo * s4 := by
      rw [flatten_len (fun r hr => huni r (List.mem_of_mem_take hr)), List.length_take, Nat.min_eq_left (by omega)]
    have hlr : (rows.take (lo + Nat.min rs.length n)).flatten.length = lo * s4 + Nat.min rs.length n * s4 := by
      rw [flatten_len (fun r hr => huni r (List.mem_of_mem_take hr)), List.length_take, Nat.min_eq_left (by omega), Nat.add_mul]
    have htl : (rs.take n).flatten.length = Nat.min rs.length n * s4 := by rw [hc'.len, hvl]
    have hrl : (rs.take n).length = Nat.min rs.length n := by rw [List.length_take]; exact Nat.min_comm _ _
    have hble : lo * s4 + Nat.min rs.length n * s4 ≤ rows.length * s4 := by
      rw [← Nat.add_mul]; exact Nat.mul_le_mul_right _ (by omega)
    obtain ⟨arr, el, g', hb, hsz2, S'⟩ := S.write (rows' := rows.take lo ++ rs.take n ++ rows.drop (lo + Nat.min rs.length n)) (q := lo * s4) ht hat hh hne hc' List.nodup_nil (by simp) (by omega)
      (by simp only [List.length_append, hrl, List.length_take, List.length_drop]; rw [Nat.min_eq_left (by omega)]; omega)
      (fun r hr => by
        simp only [List.mem_append] at hr
        rcases hr with (hr | hr) | hr
        · exact huni r (List.mem_of_mem_take hr)
        · exact hur r (List.mem_of_mem_take hr)
        · exact huni r (List.mem_of_mem_drop hr))
      (by
        rw [List.flatten_append, List.flatten_append, List.append_assoc]
        congr 1
        · rw [← hll]
          conv => rhs; arg 2; rw [← List.take_append_drop lo rows, List.flatten_append]
          simp
        · congr 1
          rw [htl, ← hlr]
          conv => rhs; arg 2; rw [← List.take_append_drop (lo + Nat.min rs.length n) rows, List.flatten_append]
          simp)
    rw [hvl] at hsz2 S'
    have st := run_storeCells_at P b0 (lo * s4) el (ws.take (Nat.min rs.length n * s4)) 0 arr w hb (by rw [hvl]; omega) hc'.oc
    rw [Nat.add_zero, hvl] at st
    refine ⟨_, _, g', ?_, S', .of_scal rfl⟩
    simp [execOp, ho, resolve, invoke, builtin, Builtin.copy_, hv, hv2, run_underlying hu, Builtin.lenOf, sizeOf_run hinf, hsz, fc, st, goInt]
end
end AM
